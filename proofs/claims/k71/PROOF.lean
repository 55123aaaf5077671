import PyProof.Rows.All
import HandS.ForMost
import HandS.ForExc
import HandS.IsInst
import HandS.Flow
import HandS.More
import HandS.Wide
import HandS.TupLe
import HandS.TupAny
import HandS.TupMul
import HandS.WideMore
import PyProof.P3In
import HandS.Text
import HandS.StrMore
import HandS.NoneIn
import HandS.Style
import HandS.Iter
import HandS.Zip
import HandS.Comp
import HandS.Defaults
import HandS.Head0
import HandS.Head1
import HandS.Head2
import HandS.HeadEnd
import HandS.HeadHook1
import HandS.HeadHook2
import HandS.HeadHook3
import HandS.HeadHook4
import HandS.EndBits
import HandS.Dict
import PyProof.NeKinds
import PyProof.EqAt
import HandS.RaiseMore
import HandS.ExcIs
import HandS.Replace
import HandS.ReplaceLit
import HandS.ReplaceDef
import KE.GoesComp
import KE.GoesRaise
import KE.KAsSuite
import PySem.Challenge.RW_partsproved_k71_texts_of_proofs
import HandS.ReplaceList
import HandS.Codes
set_option Elab.async false
set_option linter.all false
set_option maxRecDepth 100000
set_option maxHeartbeats 4000000
set_option autoImplicit false
namespace Z
open PySem PySem.Spec PyProof.Rows L2

/-! plain data: what a Python value is, without the heap; loc i is a list that may still change, the i-th cell of the store -/
inductive D where
  | non
  | bl (b : Bool)
  | int (i : Int)
  | str (s : Str)
  | tup (l : List D)
  | lst (l : List D)
  | ro (l : List D)
  | loc (i : Nat)
inductive Cell where
  | lst (l : List D)
  | frz (l : List D)
abbrev Mem := List Cell
abbrev Ev := List (Option D)
inductive Out (α : Type) where
  | ok (a : α) (m : Mem)
  | exc (c : Str) (m : Mem)
inductive SOut where
  | nx (e : Ev) (m : Mem)
  | rt (d : D) (m : Mem)
  | bk (e : Ev) (m : Mem)
  | ct (e : Ev) (m : Mem)
  | exc (c : Str) (e : Ev) (m : Mem)
def bnd {α β : Type} (r : Option (Out α)) (k : α → Mem → Option (Out β)) : Option (Out β) :=
  match r with
  | none => none
  | some (.exc c m) => some (.exc c m)
  | some (.ok a m) => k a m

/-- where the cells lie; which lists never change any more -/
structure Wd where
  ρ : List Addr
  fz : Addr → Prop
  /-- what is being made and is no cell: it stays as it is -/
  pv : Addr → Prop
/-- a list that is only read: locked, or the module's own -/
def SqR (K : PySem.W.Frag) (H : Hp) (a : Addr) (xs : List V) : Prop :=
  (∃ o, H a = some (.frz o (.lst xs))) ∨
    ∃ (o : Obj) (its : Array Value) (n : Nat), K.lookup a = some o ∧ o.cls = .type "list" ∧ o.dict = none ∧ o.data = .seq its n ∧ its.size ≤ sizeLine ∧ Vals xs its.toList
theorem SqR.sq {K : PySem.W.Frag} {H : Hp} {a : Addr} {xs : List V} (h : SqR K H a xs) : SqL K H a xs := by
  rcases h with h | h
  · exact .inl (.inr h)
  · exact .inr h
def RoAt (K : PySem.W.Frag) (w : Wd) (H : Hp) (a : Addr) (xs : List V) : Prop := SqR K H a xs ∨ (w.fz a ∧ H a = some (.lst xs))
theorem RoAt.sq {K : PySem.W.Frag} {w : Wd} {H : Hp} {a : Addr} {xs : List V} (h : RoAt K w H a xs) : SqL K H a xs := by
  rcases h with h | h
  · exact h.sq
  · exact SqL.of h.2

mutual
def Rep (K : PySem.W.Frag) (w : Wd) (H : Hp) : D → V → Prop
  | .non, v => v = .non
  | .bl b, v => v = .bl b
  | .int i, v => v = .int i
  | .str s, v => v = .str s
  | .tup l, v => ∃ a xs, v = .ref a ∧ SqT K H a xs ∧ RepL K w H l xs
  | .lst l, v => ∃ a xs, v = .ref a ∧ w.fz a ∧ H a = some (.lst xs) ∧ RepL K w H l xs
  | .ro l, v => ∃ a xs, v = .ref a ∧ RoAt K w H a xs ∧ RepL K w H l xs
  | .loc i, v => ∃ a, v = .ref a ∧ w.ρ[i]? = some a
def RepL (K : PySem.W.Frag) (w : Wd) (H : Hp) : List D → List V → Prop
  | [], vs => vs = []
  | d :: l, vs => ∃ v r, vs = v :: r ∧ Rep K w H d v ∧ RepL K w H l r
end
def RepC (K : PySem.W.Frag) (w : Wd) (H : Hp) (a : Addr) : Cell → Prop
  | .lst l => ¬ w.fz a ∧ ∃ xs, H a = some (.lst xs) ∧ RepL K w H l xs
  | .frz l => w.fz a ∧ ∃ xs, H a = some (.lst xs) ∧ RepL K w H l xs
structure Good (K : PySem.W.Frag) (w : Wd) (H : Hp) (m : Mem) : Prop where
  len : w.ρ.length = m.length
  nd : w.ρ.Nodup
  at' : ∀ (i : Nat) (c : Cell) (a : Addr), m[i]? = some c → w.ρ[i]? = some a → RepC K w H a c
  fz : ∀ a, w.fz a → ∃ xs, H a = some (.lst xs)
  pv : ∀ a, w.pv a → (∃ o, H a = some o) ∧ a ∉ w.ρ ∧ ¬ w.fz a
structure Ext (K : PySem.W.Frag) (w : Wd) (H : Hp) (w' : Wd) (H' : Hp) : Prop where
  ρ : ∀ (i : Nat) (a : Addr), w.ρ[i]? = some a → w'.ρ[i]? = some a
  fz : ∀ a, w.fz a → w'.fz a
  tup : ∀ a xs, SqT K H a xs → SqT K H' a xs
  lst : ∀ a xs, w.fz a → H a = some (.lst xs) → H' a = some (.lst xs)
  ro : ∀ a xs, SqR K H a xs → SqR K H' a xs
  pv : ∀ a, w.pv a → w'.pv a ∧ H' a = H a
theorem Ext.refl {K : PySem.W.Frag} {w : Wd} {H : Hp} : Ext K w H w H := ⟨fun _ _ h => h, fun _ h => h, fun _ _ h => h, fun _ _ _ h => h, fun _ _ h => h, fun _ h => ⟨h, rfl⟩⟩
theorem Ext.trans {K : PySem.W.Frag} {w w1 w2 : Wd} {H H1 H2 : Hp} (a : Ext K w H w1 H1) (b : Ext K w1 H1 w2 H2) : Ext K w H w2 H2 :=
  ⟨fun i x h => b.ρ i x (a.ρ i x h), fun x h => b.fz x (a.fz x h), fun x xs h => b.tup x xs (a.tup x xs h), fun x xs h h' => b.lst x xs (a.fz x h) (a.lst x xs h h'), fun x xs h => b.ro x xs (a.ro x xs h), fun x h => ⟨(b.pv x (a.pv x h).1).1, ((b.pv x (a.pv x h).1).2).trans (a.pv x h).2⟩⟩
theorem RoAt.mono {K : PySem.W.Frag} {w w' : Wd} {H H' : Hp} {a : Addr} {xs : List V} (e : Ext K w H w' H') (h : RoAt K w H a xs) : RoAt K w' H' a xs := by
  rcases h with h | h
  · exact .inl (e.ro _ _ h)
  · exact .inr ⟨e.fz _ h.1, e.lst _ _ h.1 h.2⟩
mutual
theorem Rep.mono {K : PySem.W.Frag} {w w' : Wd} {H H' : Hp} (e : Ext K w H w' H') : ∀ {d : D} {v : V}, Rep K w H d v → Rep K w' H' d v
  | .non, _, h => h
  | .bl _, _, h => h
  | .int _, _, h => h
  | .str _, _, h => h
  | .tup l, _, h => by
    simp only [Rep] at h ⊢
    obtain ⟨a, xs, r, t, q⟩ := h
    exact ⟨a, xs, r, e.tup a xs t, RepL.mono e q⟩
  | .lst l, _, h => by
    simp only [Rep] at h ⊢
    obtain ⟨a, xs, r, f, t, q⟩ := h
    exact ⟨a, xs, r, e.fz a f, e.lst a xs f t, RepL.mono e q⟩
  | .ro l, _, h => by
    simp only [Rep] at h ⊢
    obtain ⟨a, xs, r, t, q⟩ := h
    exact ⟨a, xs, r, t.mono e, RepL.mono e q⟩
  | .loc i, _, h => by
    simp only [Rep] at h ⊢
    obtain ⟨a, r, q⟩ := h
    exact ⟨a, r, e.ρ i a q⟩
theorem RepL.mono {K : PySem.W.Frag} {w w' : Wd} {H H' : Hp} (e : Ext K w H w' H') : ∀ {l : List D} {vs : List V}, RepL K w H l vs → RepL K w' H' l vs
  | [], _, h => h
  | d :: l, _, h => by
    simp only [RepL] at h ⊢
    obtain ⟨v, r, q, h1, h2⟩ := h
    exact ⟨v, r, q, Rep.mono e h1, RepL.mono e h2⟩
end
section
variable {K : PySem.W.Frag} {w w' : Wd} {H H' : Hp} {m : Mem}
theorem RepL.nil_iff {vs : List V} : RepL K w H [] vs ↔ vs = [] := by simp only [RepL]
theorem RepL.cons_iff {d : D} {l : List D} {vs : List V} : RepL K w H (d :: l) vs ↔ ∃ v r, vs = v :: r ∧ Rep K w H d v ∧ RepL K w H l r := by simp only [RepL]
theorem RepL.nil : RepL K w H [] [] := RepL.nil_iff.mpr rfl
theorem RepL.cons {d : D} {l : List D} {v : V} {r : List V} (h : Rep K w H d v) (q : RepL K w H l r) : RepL K w H (d :: l) (v :: r) := RepL.cons_iff.mpr ⟨v, r, rfl, h, q⟩
theorem RepL.len : ∀ {l : List D} {vs : List V}, RepL K w H l vs → vs.length = l.length
  | [], _, h => by rw [RepL.nil_iff.mp h]; rfl
  | d :: l, _, h => by
    obtain ⟨v, r, rfl, _, q⟩ := RepL.cons_iff.mp h
    rw [List.length_cons, List.length_cons, RepL.len q]
theorem RepL.get : ∀ {l : List D} {vs : List V} {i : Nat} {d : D}, RepL K w H l vs → l[i]? = some d → ∃ v, vs[i]? = some v ∧ Rep K w H d v
  | [], _, _, _, _, e => by simp at e
  | c :: l, _, 0, d, h, e => by
    obtain ⟨v, r, rfl, q, _⟩ := RepL.cons_iff.mp h
    simp at e; subst e
    exact ⟨v, rfl, q⟩
  | c :: l, _, i + 1, d, h, e => by
    obtain ⟨v, r, rfl, _, q⟩ := RepL.cons_iff.mp h
    obtain ⟨u, h1, h2⟩ := RepL.get (i := i) q (by simpa using e)
    exact ⟨u, by simpa using h1, h2⟩
theorem RepL.getV : ∀ {l : List D} {vs : List V} {i : Nat} {v : V}, RepL K w H l vs → vs[i]? = some v → ∃ d, l[i]? = some d ∧ Rep K w H d v
  | [], _, _, _, h, e => by rw [RepL.nil_iff.mp h] at e; simp at e
  | c :: l, _, 0, v, h, e => by
    obtain ⟨u, r, rfl, q, _⟩ := RepL.cons_iff.mp h
    simp at e; subst e
    exact ⟨c, rfl, q⟩
  | c :: l, _, i + 1, d, h, e => by
    obtain ⟨u, r, rfl, _, q⟩ := RepL.cons_iff.mp h
    obtain ⟨u, h1, h2⟩ := RepL.getV (i := i) q (by simpa using e)
    exact ⟨u, by simpa using h1, h2⟩
theorem RepL.append : ∀ {l r : List D} {xs ys : List V}, RepL K w H l xs → RepL K w H r ys → RepL K w H (l ++ r) (xs ++ ys)
  | [], _, _, _, h, q => by rw [RepL.nil_iff.mp h]; exact q
  | d :: l, _, _, _, h, q => by
    obtain ⟨v, r, rfl, h1, h2⟩ := RepL.cons_iff.mp h
    exact RepL.cons h1 (RepL.append h2 q)
theorem RepL.take : ∀ {l : List D} {xs : List V} (n : Nat), RepL K w H l xs → RepL K w H (l.take n) (xs.take n)
  | _, _, 0, _ => by rw [List.take_zero, List.take_zero]; exact RepL.nil
  | [], _, n + 1, h => by rw [RepL.nil_iff.mp h]; exact RepL.nil
  | d :: l, _, n + 1, h => by
    obtain ⟨v, r, rfl, h1, h2⟩ := RepL.cons_iff.mp h
    exact RepL.cons h1 (RepL.take n h2)
theorem RepL.drop : ∀ {l : List D} {xs : List V} (n : Nat), RepL K w H l xs → RepL K w H (l.drop n) (xs.drop n)
  | _, _, 0, h => h
  | [], _, n + 1, h => by rw [RepL.nil_iff.mp h]; exact RepL.nil
  | d :: l, _, n + 1, h => by
    obtain ⟨v, r, rfl, h1, h2⟩ := RepL.cons_iff.mp h
    exact RepL.drop n h2
theorem RepL.set {d : D} {v : V} (hd : Rep K w H d v) : ∀ {l : List D} {xs : List V} (i : Nat), RepL K w H l xs → RepL K w H (l.set i d) (xs.set i v)
  | [], _, _, h => by rw [RepL.nil_iff.mp h]; exact RepL.nil
  | c :: l, _, 0, h => by
    obtain ⟨u, r, rfl, h1, h2⟩ := RepL.cons_iff.mp h
    exact RepL.cons hd h2
  | c :: l, _, i + 1, h => by
    obtain ⟨u, r, rfl, h1, h2⟩ := RepL.cons_iff.mp h
    exact RepL.cons h1 (RepL.set hd i h2)
theorem RepL.ints : ∀ {ns : List Int} {xs : List V}, RepL K w H (ns.map D.int) xs → xs = ns.map V.int
  | [], _, h => RepL.nil_iff.mp h
  | n :: r, _, h => by
    obtain ⟨v, t, rfl, h1, h2⟩ := RepL.cons_iff.mp h
    rw [List.map_cons, ← RepL.ints h2]
    simp only [Rep] at h1
    rw [h1]
theorem RepL.of_ints : ∀ {ns : List Int}, RepL K w H (ns.map D.int) (ns.map V.int)
  | [] => RepL.nil
  | n :: r => RepL.cons (by simp only [Rep]) RepL.of_ints
theorem RepL.reverse {l : List D} {xs : List V} (h : RepL K w H l xs) : RepL K w H l.reverse xs.reverse := by
  induction l generalizing xs with
  | nil => rw [RepL.nil_iff.mp h]; exact RepL.nil
  | cons d l ih =>
    obtain ⟨v, r, rfl, h1, h2⟩ := RepL.cons_iff.mp h
    rw [List.reverse_cons, List.reverse_cons]
    exact (ih h2).append (RepL.cons h1 RepL.nil)
theorem RepL.dropLast {l : List D} {xs : List V} (h : RepL K w H l xs) : RepL K w H l.dropLast xs.dropLast := by
  rw [List.dropLast_eq_take, List.dropLast_eq_take, h.len]
  exact h.take _

/-! new objects -/
theorem sqT_upd {p : Addr} {o : HO} (hp : H p = none) {a : Addr} {xs : List V} (h : SqT K H a xs) : SqT K (upd H p o) a xs := by
  rcases h with (h | ⟨ob, h⟩) | h
  · exact .inl (.inl (by rw [upd_ne (ne_of_none h hp)]; exact h))
  · exact .inl (.inr ⟨ob, by rw [upd_ne (ne_of_none h hp)]; exact h⟩)
  · exact .inr h
theorem sqR_upd {p : Addr} {o : HO} (hp : ∀ ob u, H p ≠ some (.frz ob u)) {a : Addr} {xs : List V} (h : SqR K H a xs) : SqR K (upd H p o) a xs := by
  rcases h with ⟨ob, h⟩ | h
  · exact .inl ⟨ob, by rw [upd_ne fun z => hp _ _ (z ▸ h)]; exact h⟩
  · exact .inr h
theorem Ext.new {p : Addr} {o : HO} (g : Good K w H m) (hp : H p = none) : Ext K w H w (upd H p o) :=
  ⟨fun _ _ h => h, fun _ h => h, fun _ _ h => sqT_upd hp h, fun a xs _ h => by rw [upd_ne (ne_of_none h hp)]; exact h, fun _ _ h => sqR_upd (fun _ _ z => by rw [hp] at z; cases z) h, fun a h => ⟨h, by
    obtain ⟨⟨u, q⟩, _⟩ := g.pv a h
    rw [upd_ne (ne_of_none q hp)]⟩⟩
theorem RepC.mono {a : Addr} {c : Cell} (e : Ext K w H w' H') (hf : ¬ w.fz a → ¬ w'.fz a) (hh : ∀ xs, H a = some (.lst xs) → H' a = some (.lst xs)) (h : RepC K w H a c) : RepC K w' H' a c := by
  cases c with
  | lst l =>
    obtain ⟨n, xs, q, r⟩ := h
    exact ⟨hf n, xs, hh xs q, r.mono e⟩
  | frz l =>
    obtain ⟨n, xs, q, r⟩ := h
    exact ⟨e.fz a n, xs, hh xs q, r.mono e⟩
theorem RepC.there {a : Addr} {c : Cell} (h : RepC K w H a c) : ∃ xs, H a = some (.lst xs) := by
  cases c with
  | lst l => obtain ⟨_, xs, q, _⟩ := h; exact ⟨xs, q⟩
  | frz l => obtain ⟨_, xs, q, _⟩ := h; exact ⟨xs, q⟩
theorem Good.cell (g : Good K w H m) {i : Nat} {a : Addr} (h : w.ρ[i]? = some a) : ∃ c, m[i]? = some c := by
  have hi : i < w.ρ.length := (List.getElem?_eq_some_iff.mp h).1
  rw [g.len] at hi
  exact ⟨m[i], List.getElem?_eq_getElem hi⟩
theorem Good.addr (g : Good K w H m) {i : Nat} {c : Cell} (h : m[i]? = some c) : ∃ a, w.ρ[i]? = some a := by
  have hi : i < m.length := (List.getElem?_eq_some_iff.mp h).1
  rw [← g.len] at hi
  exact ⟨w.ρ[i], List.getElem?_eq_getElem hi⟩
theorem Good.there (g : Good K w H m) {i : Nat} {a : Addr} (h : w.ρ[i]? = some a) : ∃ xs, H a = some (.lst xs) := by
  obtain ⟨c, hc⟩ := g.cell h
  exact (g.at' i c a hc h).there
/-- a new object that no cell is -/
theorem Good.new {p : Addr} {o : HO} (g : Good K w H m) (hp : H p = none) : Good K w (upd H p o) m := by
  refine ⟨g.len, g.nd, fun i c a hc ha => ?_, fun a ha => ?_, fun a ha => ?_⟩
  · exact (g.at' i c a hc ha).mono (Ext.new g hp) (fun h => h) fun xs q => by rw [upd_ne (ne_of_none q hp)]; exact q
  · obtain ⟨xs, q⟩ := g.fz a ha
    exact ⟨xs, by rw [upd_ne (ne_of_none q hp)]; exact q⟩
  · obtain ⟨⟨u, q⟩, h2, h3⟩ := g.pv a ha
    exact ⟨⟨u, by rw [upd_ne (ne_of_none q hp)]; exact q⟩, h2, h3⟩
/-- a new list that never changes -/
def Wd.fzn (w : Wd) (p : Addr) : Wd := { w with fz := fun a => a = p ∨ w.fz a }
theorem Ext.fzn {p : Addr} : Ext K w H (w.fzn p) H := ⟨fun _ _ h => h, fun _ h => .inr h, fun _ _ h => h, fun _ _ _ h => h, fun _ _ h => h, fun _ h => ⟨h, rfl⟩⟩
theorem Good.newF {p : Addr} {xs : List V} (g : Good K w H m) (hp : H p = none) : Good K (w.fzn p) (upd H p (.lst xs)) m := by
  refine ⟨g.len, g.nd, fun i c a hc ha => ?_, fun a ha => ?_, fun a ha => ?_⟩
  · have q := g.at' i c a hc ha
    obtain ⟨ys, hy⟩ := q.there
    exact q.mono ((Ext.new g hp).trans Ext.fzn) (fun h z => z.elim (fun e => ne_of_none hy hp e) h) fun xs q => by rw [upd_ne (ne_of_none q hp)]; exact q
  · rcases ha with rfl | ha
    · exact ⟨xs, upd_same⟩
    · obtain ⟨ys, q⟩ := g.fz a ha
      exact ⟨ys, by rw [upd_ne (ne_of_none q hp)]; exact q⟩
  · obtain ⟨⟨u, q⟩, h2, h3⟩ := g.pv a ha
    exact ⟨⟨u, by rw [upd_ne (ne_of_none q hp)]; exact q⟩, h2, fun z => z.elim (fun e => ne_of_none q hp e) h3⟩
/-- a new cell -/
def Wd.push (w : Wd) (p : Addr) : Wd := { w with ρ := w.ρ ++ [p] }
theorem Ext.push {p : Addr} : Ext K w H (w.push p) H := ⟨fun i a h => by
  show (w.ρ ++ [p])[i]? = some a
  rw [List.getElem?_append_left (List.getElem?_eq_some_iff.mp h).1]; exact h, fun _ h => h, fun _ _ h => h, fun _ _ _ h => h, fun _ _ h => h, fun _ h => ⟨h, rfl⟩⟩
theorem Good.newL {p : Addr} {l : List D} {xs : List V} (g : Good K w H m) (hp : H p = none) (r : RepL K w H l xs) : Good K (w.push p) (upd H p (.lst xs)) (m ++ [.lst l]) := by
  have e : Ext K w H (w.push p) (upd H p (.lst xs)) := (Ext.new g hp).trans Ext.push
  have np : p ∉ w.ρ := fun z => by
    obtain ⟨i, hi⟩ := List.mem_iff_getElem?.mp z
    obtain ⟨ys, hy⟩ := g.there hi
    rw [hp] at hy; cases hy
  have nf : ¬ w.fz p := fun z => by
    obtain ⟨ys, hy⟩ := g.fz p z
    rw [hp] at hy; cases hy
  refine ⟨?_, ?_, fun i c a hc ha => ?_, fun a ha => ?_, fun a ha => ?_⟩
  · show (w.ρ ++ [p]).length = _
    rw [List.length_append, List.length_append, g.len]; rfl
  · exact List.nodup_append.mpr ⟨g.nd, by simp, fun a ha b hb => by
      have : b = p := by simpa using hb
      subst this
      exact fun z => np (z ▸ ha)⟩
  · have ha : (w.ρ ++ [p])[i]? = some a := ha
    by_cases hi : i < w.ρ.length
    · rw [List.getElem?_append_left hi] at ha
      rw [List.getElem?_append_left (by rw [← g.len]; exact hi)] at hc
      have q := g.at' i c a hc ha
      exact q.mono e (fun h => h) fun xs q => by rw [upd_ne (ne_of_none q hp)]; exact q
    · have hil : i < (w.ρ ++ [p]).length := (List.getElem?_eq_some_iff.mp ha).1
      rw [List.length_append, List.length_singleton] at hil
      have ei : i = w.ρ.length := by omega
      rw [ei, List.getElem?_append_right (Nat.le_refl _), Nat.sub_self] at ha
      rw [ei, g.len, List.getElem?_append_right (Nat.le_refl _), Nat.sub_self] at hc
      simp at ha hc
      subst ha hc
      exact ⟨nf, xs, upd_same, r.mono e⟩
  · obtain ⟨ys, q⟩ := g.fz a ha
    exact ⟨ys, by rw [upd_ne (ne_of_none q hp)]; exact q⟩
  · obtain ⟨⟨u, q⟩, h2, h3⟩ := g.pv a ha
    refine ⟨⟨u, by rw [upd_ne (ne_of_none q hp)]; exact q⟩, fun z => ?_, h3⟩
    have z : a ∈ w.ρ ++ [p] := z
    rcases List.mem_append.mp z with z | z
    · exact h2 z
    · exact ne_of_none q hp (by simpa using z)
/-- a cell is written -/
theorem Ext.write {i : Nat} {a : Addr} {l : List D} {ys : List V} (g : Good K w H m) (hm : m[i]? = some (.lst l)) (ha : w.ρ[i]? = some a) : Ext K w H w (upd H a (.lst ys)) := by
  obtain ⟨nf, xs, hx, _⟩ : ¬ w.fz a ∧ ∃ xs, H a = some (.lst xs) ∧ RepL K w H l xs := g.at' i _ a hm ha
  refine ⟨fun _ _ h => h, fun _ h => h, fun b zs h => ?_, fun b zs hf h => ?_, fun b zs h => sqR_upd (fun ob u z => by rw [hx] at z; cases z) h, fun b h => ⟨h, by
    obtain ⟨_, h2, _⟩ := g.pv b h
    have nb : b ≠ a := fun z => h2 (by rw [z]; exact List.mem_of_getElem? ha)
    rw [upd_ne nb]⟩⟩
  · rcases h with (h | ⟨ob, h⟩) | h
    · exact .inl (.inl (by rw [upd_ne (fun z => by rw [z, hx] at h; cases h)]; exact h))
    · exact .inl (.inr ⟨ob, by rw [upd_ne (fun z => by rw [z, hx] at h; cases h)]; exact h⟩)
    · exact .inr h
  · have nb : b ≠ a := fun z => nf (by rw [← z]; exact hf)
    rw [upd_ne nb]; exact h
theorem nodup_get : ∀ {l : List Addr} {i j : Nat} {a : Addr}, l.Nodup → l[i]? = some a → l[j]? = some a → i = j := fun {l i j a} h h1 h2 => by
  obtain ⟨hi, e1⟩ := List.getElem?_eq_some_iff.mp h1
  obtain ⟨hj, e2⟩ := List.getElem?_eq_some_iff.mp h2
  exact (List.getElem_inj h).mp (e1.trans e2.symm)
theorem Good.write {i : Nat} {a : Addr} {l l' : List D} {ys : List V} (g : Good K w H m) (hm : m[i]? = some (.lst l)) (ha : w.ρ[i]? = some a) (r : RepL K w H l' ys) : Good K w (upd H a (.lst ys)) (m.set i (.lst l')) := by
  have e : Ext K w H w (upd H a (.lst ys)) := Ext.write g hm ha
  obtain ⟨nf, xs, hx, _⟩ : ¬ w.fz a ∧ ∃ xs, H a = some (.lst xs) ∧ RepL K w H l xs := g.at' i _ a hm ha
  refine ⟨by rw [List.length_set]; exact g.len, g.nd, fun j c b hc hb => ?_, fun b hb => ?_, fun b hb => ?_⟩
  · by_cases hj : i = j
    · subst hj
      rw [ha] at hb; cases hb
      rw [List.getElem?_set_self (List.getElem?_eq_some_iff.mp hm).1] at hc
      cases hc
      exact ⟨nf, ys, upd_same, r.mono e⟩
    · rw [List.getElem?_set_ne hj] at hc
      have q := g.at' j c b hc hb
      have nb : b ≠ a := fun z => hj (nodup_get g.nd ha (by rw [← z]; exact hb))
      exact q.mono e (fun h => h) fun xs q => by
        rw [upd_ne nb]; exact q
  · obtain ⟨zs, q⟩ := g.fz b hb
    have nb : b ≠ a := fun z => nf (by rw [← z]; exact hb)
    exact ⟨zs, by rw [upd_ne nb]; exact q⟩
  · obtain ⟨⟨u, q⟩, h2, h3⟩ := g.pv b hb
    have nb : b ≠ a := fun z => h2 (by rw [z]; exact List.mem_of_getElem? ha)
    exact ⟨⟨u, by rw [upd_ne nb]; exact q⟩, h2, h3⟩
/-- a cell changes no more -/
theorem Good.freeze {i : Nat} {a : Addr} {l : List D} (g : Good K w H m) (hm : m[i]? = some (.lst l)) (ha : w.ρ[i]? = some a) : Good K (w.fzn a) H (m.set i (.frz l)) ∧ Rep K (w.fzn a) H (.lst l) (.ref a) := by
  obtain ⟨nf, xs, hx, r⟩ : ¬ w.fz a ∧ ∃ xs, H a = some (.lst xs) ∧ RepL K w H l xs := g.at' i _ a hm ha
  refine ⟨⟨by rw [List.length_set]; exact g.len, g.nd, fun j c b hc hb => ?_, fun b hb => ?_, fun b hb => ?_⟩, ?_⟩
  · by_cases hj : i = j
    · subst hj
      have hb : w.ρ[i]? = some b := hb
      rw [ha] at hb
      have hb : a = b := Option.some.inj hb
      subst hb
      rw [List.getElem?_set_self (List.getElem?_eq_some_iff.mp hm).1] at hc
      cases hc
      exact ⟨.inl rfl, xs, hx, r.mono Ext.fzn⟩
    · rw [List.getElem?_set_ne hj] at hc
      have q := g.at' j c b hc hb
      exact q.mono Ext.fzn (fun h z => z.elim (fun e => hj (nodup_get g.nd ha (e ▸ hb))) h) fun _ q => q
  · rcases hb with rfl | hb
    · exact ⟨xs, hx⟩
    · exact g.fz b hb
  · obtain ⟨h1, h2, h3⟩ := g.pv b hb
    exact ⟨h1, h2, fun z => z.elim (fun e => h2 (by rw [e]; exact List.mem_of_getElem? ha)) h3⟩
  · simp only [Rep]
    exact ⟨a, xs, rfl, .inl rfl, hx, r.mono Ext.fzn⟩
theorem Good.thaw {i : Nat} {a : Addr} {l : List D} (g : Good K w H m) (hm : m[i]? = some (.frz l)) (ha : w.ρ[i]? = some a) : Rep K w H (.lst l) (.ref a) := by
  obtain ⟨f, xs, hx, r⟩ : w.fz a ∧ ∃ xs, H a = some (.lst xs) ∧ RepL K w H l xs := g.at' i _ a hm ha
  simp only [Rep]
  exact ⟨a, xs, rfl, f, hx, r⟩

/-! the frame's names -/
def EvR (K : PySem.W.Frag) (w : Wd) (H : Hp) (e : Ev) (σ : L2.St) : Prop := e.length = σ.length ∧ ∀ (i : Nat) (d : D), e[i]? = some (some d) → ∃ v, σ[i]? = some (some v) ∧ Rep K w H d v
theorem EvR.mono {e : Ev} {σ : L2.St} (x : Ext K w H w' H') (h : EvR K w H e σ) : EvR K w' H' e σ := ⟨h.1, fun i d q => by
  obtain ⟨v, h1, h2⟩ := h.2 i d q
  exact ⟨v, h1, h2.mono x⟩⟩
theorem EvR.set {e : Ev} {σ : L2.St} {i : Nat} {d : D} {v : V} (h : EvR K w H e σ) (r : Rep K w H d v) : EvR K w H (e.set i (some d)) (σ.set i (some v)) := by
  refine ⟨by rw [List.length_set, List.length_set]; exact h.1, fun j c q => ?_⟩
  by_cases hj : i = j
  · subst hj
    have hi : i < e.length := by
      have := (List.getElem?_eq_some_iff.mp q).1
      rwa [List.length_set] at this
    rw [List.getElem?_set_self hi] at q
    cases q
    exact ⟨v, List.getElem?_set_self (by rw [← h.1]; exact hi), r⟩
  · rw [List.getElem?_set_ne hj] at q
    obtain ⟨u, h1, h2⟩ := h.2 j c q
    exact ⟨u, by rw [List.getElem?_set_ne hj]; exact h1, h2⟩
theorem EvR.forget {e : Ev} {σ : L2.St} {i : Nat} (h : EvR K w H e σ) (o : Option V) : EvR K w H (e.set i none) (σ.set i o) := by
  refine ⟨by rw [List.length_set, List.length_set]; exact h.1, fun j c q => ?_⟩
  by_cases hj : i = j
  · subst hj
    have hi : i < e.length := by
      have := (List.getElem?_eq_some_iff.mp q).1
      rwa [List.length_set] at this
    rw [List.getElem?_set_self hi] at q
    cases q
  · rw [List.getElem?_set_ne hj] at q
    obtain ⟨u, h1, h2⟩ := h.2 j c q
    exact ⟨u, by rw [List.getElem?_set_ne hj]; exact h1, h2⟩
def wipeE (e : Ev) : List Nat → Ev
  | [] => e
  | v :: vs => (wipeE e vs).set v none
theorem EvR.wipe {e : Ev} {σ : L2.St} (h : EvR K w H e σ) : ∀ vs : List Nat, EvR K w H (wipeE e vs) (L2.wipe σ vs)
  | [] => h
  | v :: vs => (EvR.wipe h vs).forget none
def startE (n : Nat) (ds : List D) : Ev := ds.map some ++ List.replicate (n - ds.length) none
theorem EvR.start {N : List Str} {ds : List D} {vs : List V} (h : RepL K w H ds vs) : EvR K w H (startE N.length ds) (L2.start N vs) := by
  unfold startE L2.start
  rw [h.len]
  refine ⟨by simp [h.len], fun i d q => ?_⟩
  by_cases hi : i < ds.length
  · rw [List.getElem?_append_left (by simpa using hi), List.getElem?_map] at q
    rw [List.getElem?_append_left (by simpa [h.len] using hi), List.getElem?_map]
    cases e : ds[i]? with
    | none => rw [e] at q; cases q
    | some c =>
      rw [e] at q
      cases q
      obtain ⟨v, h1, h2⟩ := h.get e
      exact ⟨v, by rw [h1]; rfl, h2⟩
  · rw [List.getElem?_append_right (by simpa using hi), List.getElem?_replicate] at q
    split at q <;> cases q
end
end Z

set_option maxRecDepth 100000
set_option maxHeartbeats 4000000
set_option autoImplicit false
namespace Z
open PySem PySem.Spec PyProof.Rows L2

/-! ### judgements over plain data -/
abbrev PEF := Ev → Mem → Option (Out D)
abbrev PTF := Ev → Mem → Option (Out Bool)
abbrev PAF := Ev → Mem → Option (Out (List D))
abbrev PSF := Ev → Mem → Option SOut
/-- what is wanted of an exception: its class's name -/
def ExW (X : Cx) (W : WX) (w : Wd) (H : Hp) (σ : L2.St) (c : Str) (m : Mem) : Prop :=
  ∀ w' H' C, Good X.K w' H' m → Ext X.K w H w' H' → X.mg c = some (.ref C) → W (.ref C) none σ H'
def PostE (X : Cx) (W : WX) (σ : L2.St) (w : Wd) (H : Hp) (Q : VK) : Out D → Prop
  | .ok d m => ∀ w' v H', Good X.K w' H' m → Ext X.K w H w' H' → Rep X.K w' H' d v → Q v H'
  | .exc c m => ExW X W w H σ c m
def PostT (X : Cx) (W : WX) (σ : L2.St) (w : Wd) (H : Hp) (Q : Bool → Hp → Prop) : Out Bool → Prop
  | .ok b m => ∀ w' H', Good X.K w' H' m → Ext X.K w H w' H' → Q b H'
  | .exc c m => ExW X W w H σ c m
def PostA (X : Cx) (W : WX) (σ : L2.St) (w : Wd) (H : Hp) (Q : List V → Hp → Prop) : Out (List D) → Prop
  | .ok ds m => ∀ w' vs H', Good X.K w' H' m → Ext X.K w H w' H' → RepL X.K w' H' ds vs → Q vs H'
  | .exc c m => ExW X W w H σ c m
def tM (X : Cx) (W : WX) (p : PEF) : TE := fun σ H Q => ∃ w m e r, Good X.K w H m ∧ EvR X.K w H e σ ∧ p e m = some r ∧ PostE X W σ w H Q r
def tT (X : Cx) (W : WX) (p : PTF) : TT := fun σ H Q => ∃ w m e r, Good X.K w H m ∧ EvR X.K w H e σ ∧ p e m = some r ∧ PostT X W σ w H Q r
def tA (X : Cx) (W : WX) (p : PAF) : TA := fun σ H Q => ∃ w m e r, Good X.K w H m ∧ EvR X.K w H e σ ∧ p e m = some r ∧ PostA X W σ w H Q r
abbrev ME (X : Cx) (W : WX) (e : Expr) (p : PEF) : Prop := PE X e (tM X W p)
abbrev MT (X : Cx) (W : WX) (e : Expr) (p : PTF) : Prop := PT X e (tT X W p)
abbrev MW (X : Cx) (W : WX) (e : Expr) (p : PTF) : Prop := PW X e (tT X W p)
abbrev MA (X : Cx) (W : WX) (es : List Expr) (p : PAF) : Prop := PA X es (tA X W p)

theorem PE.imp {X : Cx} {e : Expr} {t t' : TE} (h : PE X e t) (i : ∀ σ H Q, t' σ H Q → t σ H Q) : PE X e t' := ⟨fun pins s σ H Q I q => h.run pins s σ H Q I (i _ _ _ q)⟩
theorem PT.imp {X : Cx} {e : Expr} {t t' : TT} (h : PT X e t) (i : ∀ σ H Q, t' σ H Q → t σ H Q) : PT X e t' := ⟨fun pins s σ H Q I q => h.run pins s σ H Q I (i _ _ _ q)⟩
theorem PW.imp {X : Cx} {e : Expr} {t t' : TT} (h : PW X e t) (i : ∀ σ H Q, t' σ H Q → t σ H Q) : PW X e t' := ⟨fun wh pins s σ H Q I q => h.run wh pins s σ H Q I (i _ _ _ q)⟩
theorem PA.imp {X : Cx} {e : List Expr} {t t' : TA} (h : PA X e t) (i : ∀ σ H Q, t' σ H Q → t σ H Q) : PA X e t' := ⟨fun pos pins s σ H Q I q => h.run pos pins s σ H Q I (i _ _ _ q)⟩

theorem ExW.ext {X : Cx} {W : WX} {w w1 : Wd} {H H1 : Hp} {σ : L2.St} {c : Str} {m : Mem} (h : ExW X W w H σ c m) (e : Ext X.K w H w1 H1) : ExW X W w1 H1 σ c m :=
  fun w' H' C g x hc => h w' H' C g (e.trans x) hc
theorem PostE.ext {X : Cx} {W : WX} {w w1 : Wd} {H H1 : Hp} {σ : L2.St} {Q : VK} {r : Out D} (h : PostE X W σ w H Q r) (e : Ext X.K w H w1 H1) : PostE X W σ w1 H1 Q r := by
  cases r with
  | ok d m => exact fun w' v H' g x hr => h w' v H' g (e.trans x) hr
  | exc c m => exact ExW.ext h e
theorem PostT.ext {X : Cx} {W : WX} {w w1 : Wd} {H H1 : Hp} {σ : L2.St} {Q : Bool → Hp → Prop} {r : Out Bool} (h : PostT X W σ w H Q r) (e : Ext X.K w H w1 H1) : PostT X W σ w1 H1 Q r := by
  cases r with
  | ok d m => exact fun w' H' g x => h w' H' g (e.trans x)
  | exc c m => exact ExW.ext h e
theorem PostA.ext {X : Cx} {W : WX} {w w1 : Wd} {H H1 : Hp} {σ : L2.St} {Q : List V → Hp → Prop} {r : Out (List D)} (h : PostA X W σ w H Q r) (e : Ext X.K w H w1 H1) : PostA X W σ w1 H1 Q r := by
  cases r with
  | ok d m => exact fun w' v H' g x hr => h w' v H' g (e.trans x) hr
  | exc c m => exact ExW.ext h e
/-- a value at hand -/
theorem PostE.now {X : Cx} {W : WX} {w : Wd} {H : Hp} {σ : L2.St} {Q : VK} {d : D} {m : Mem} {v : V} (h : PostE X W σ w H Q (.ok d m)) (g : Good X.K w H m) (r : Rep X.K w H d v) : Q v H := h w v H g Ext.refl r

/-! ### sequencing -/
theorem tM_bnd {X : Cx} {W : WX} {p : PEF} {k : D → Mem → Option (Out D)} {σ : L2.St} {H : Hp} {Q : VK} {w : Wd} {m : Mem} {e : Ev} {r : Out D} (g : Good X.K w H m) (ev : EvR X.K w H e σ) (h : bnd (p e m) k = some r) (q : PostE X W σ w H Q r)
    {R : V → Hp → Prop} (hk : ∀ d m1 w1 v H1, k d m1 = some r → Good X.K w1 H1 m1 → Ext X.K w H w1 H1 → Rep X.K w1 H1 d v → EvR X.K w1 H1 e σ → PostE X W σ w1 H1 Q r → R v H1) : tM X W p σ H R := by
  cases hp : p e m with
  | none => rw [hp] at h; cases h
  | some o =>
    rw [hp] at h
    cases o with
    | ok d m1 => exact ⟨w, m, e, _, g, ev, hp, fun w1 v H1 g1 x1 r1 => hk d m1 w1 v H1 h g1 x1 r1 (ev.mono x1) (q.ext x1)⟩
    | exc c m1 =>
      have h : some (Out.exc c m1) = some r := h
      cases h
      exact ⟨w, m, e, _, g, ev, hp, q⟩
theorem tM_bndT {X : Cx} {W : WX} {p : PEF} {k : D → Mem → Option (Out Bool)} {σ : L2.St} {H : Hp} {Q : Bool → Hp → Prop} {w : Wd} {m : Mem} {e : Ev} {r : Out Bool} (g : Good X.K w H m) (ev : EvR X.K w H e σ) (h : bnd (p e m) k = some r) (q : PostT X W σ w H Q r)
    {R : V → Hp → Prop} (hk : ∀ d m1 w1 v H1, k d m1 = some r → Good X.K w1 H1 m1 → Ext X.K w H w1 H1 → Rep X.K w1 H1 d v → EvR X.K w1 H1 e σ → PostT X W σ w1 H1 Q r → R v H1) : tM X W p σ H R := by
  cases hp : p e m with
  | none => rw [hp] at h; cases h
  | some o =>
    rw [hp] at h
    cases o with
    | ok d m1 => exact ⟨w, m, e, _, g, ev, hp, fun w1 v H1 g1 x1 r1 => hk d m1 w1 v H1 h g1 x1 r1 (ev.mono x1) (q.ext x1)⟩
    | exc c m1 =>
      have h : some (Out.exc c m1) = some r := h
      cases h
      exact ⟨w, m, e, _, g, ev, hp, q⟩
theorem tM_bndA {X : Cx} {W : WX} {p : PEF} {k : D → Mem → Option (Out (List D))} {σ : L2.St} {H : Hp} {Q : List V → Hp → Prop} {w : Wd} {m : Mem} {e : Ev} {r : Out (List D)} (g : Good X.K w H m) (ev : EvR X.K w H e σ) (h : bnd (p e m) k = some r) (q : PostA X W σ w H Q r)
    {R : V → Hp → Prop} (hk : ∀ d m1 w1 v H1, k d m1 = some r → Good X.K w1 H1 m1 → Ext X.K w H w1 H1 → Rep X.K w1 H1 d v → EvR X.K w1 H1 e σ → PostA X W σ w1 H1 Q r → R v H1) : tM X W p σ H R := by
  cases hp : p e m with
  | none => rw [hp] at h; cases h
  | some o =>
    rw [hp] at h
    cases o with
    | ok d m1 => exact ⟨w, m, e, _, g, ev, hp, fun w1 v H1 g1 x1 r1 => hk d m1 w1 v H1 h g1 x1 r1 (ev.mono x1) (q.ext x1)⟩
    | exc c m1 =>
      have h : some (Out.exc c m1) = some r := h
      cases h
      exact ⟨w, m, e, _, g, ev, hp, q⟩
theorem tA_bnd {X : Cx} {W : WX} {p : PAF} {k : List D → Mem → Option (Out D)} {σ : L2.St} {H : Hp} {Q : VK} {w : Wd} {m : Mem} {e : Ev} {r : Out D} (g : Good X.K w H m) (ev : EvR X.K w H e σ) (h : bnd (p e m) k = some r) (q : PostE X W σ w H Q r)
    {R : List V → Hp → Prop} (hk : ∀ d m1 w1 v H1, k d m1 = some r → Good X.K w1 H1 m1 → Ext X.K w H w1 H1 → RepL X.K w1 H1 d v → EvR X.K w1 H1 e σ → PostE X W σ w1 H1 Q r → R v H1) : tA X W p σ H R := by
  cases hp : p e m with
  | none => rw [hp] at h; cases h
  | some o =>
    rw [hp] at h
    cases o with
    | ok d m1 => exact ⟨w, m, e, _, g, ev, hp, fun w1 v H1 g1 x1 r1 => hk d m1 w1 v H1 h g1 x1 r1 (ev.mono x1) (q.ext x1)⟩
    | exc c m1 =>
      have h : some (Out.exc c m1) = some r := h
      cases h
      exact ⟨w, m, e, _, g, ev, hp, q⟩
theorem tA_bndA {X : Cx} {W : WX} {p : PAF} {k : List D → Mem → Option (Out (List D))} {σ : L2.St} {H : Hp} {Q : List V → Hp → Prop} {w : Wd} {m : Mem} {e : Ev} {r : Out (List D)} (g : Good X.K w H m) (ev : EvR X.K w H e σ) (h : bnd (p e m) k = some r) (q : PostA X W σ w H Q r)
    {R : List V → Hp → Prop} (hk : ∀ d m1 w1 v H1, k d m1 = some r → Good X.K w1 H1 m1 → Ext X.K w H w1 H1 → RepL X.K w1 H1 d v → EvR X.K w1 H1 e σ → PostA X W σ w1 H1 Q r → R v H1) : tA X W p σ H R := by
  cases hp : p e m with
  | none => rw [hp] at h; cases h
  | some o =>
    rw [hp] at h
    cases o with
    | ok d m1 => exact ⟨w, m, e, _, g, ev, hp, fun w1 v H1 g1 x1 r1 => hk d m1 w1 v H1 h g1 x1 r1 (ev.mono x1) (q.ext x1)⟩
    | exc c m1 =>
      have h : some (Out.exc c m1) = some r := h
      cases h
      exact ⟨w, m, e, _, g, ev, hp, q⟩
theorem tT_bnd {X : Cx} {W : WX} {p : PTF} {k : Bool → Mem → Option (Out D)} {σ : L2.St} {H : Hp} {Q : VK} {w : Wd} {m : Mem} {e : Ev} {r : Out D} (g : Good X.K w H m) (ev : EvR X.K w H e σ) (h : bnd (p e m) k = some r) (q : PostE X W σ w H Q r)
    {R : Bool → Hp → Prop} (hk : ∀ d m1 w1 H1, k d m1 = some r → Good X.K w1 H1 m1 → Ext X.K w H w1 H1 → EvR X.K w1 H1 e σ → PostE X W σ w1 H1 Q r → R d H1) : tT X W p σ H R := by
  cases hp : p e m with
  | none => rw [hp] at h; cases h
  | some o =>
    rw [hp] at h
    cases o with
    | ok d m1 => exact ⟨w, m, e, _, g, ev, hp, fun w1 H1 g1 x1 => hk d m1 w1 H1 h g1 x1 (ev.mono x1) (q.ext x1)⟩
    | exc c m1 =>
      have h : some (Out.exc c m1) = some r := h
      cases h
      exact ⟨w, m, e, _, g, ev, hp, q⟩
theorem tT_bndT {X : Cx} {W : WX} {p : PTF} {k : Bool → Mem → Option (Out Bool)} {σ : L2.St} {H : Hp} {Q : Bool → Hp → Prop} {w : Wd} {m : Mem} {e : Ev} {r : Out Bool} (g : Good X.K w H m) (ev : EvR X.K w H e σ) (h : bnd (p e m) k = some r) (q : PostT X W σ w H Q r)
    {R : Bool → Hp → Prop} (hk : ∀ d m1 w1 H1, k d m1 = some r → Good X.K w1 H1 m1 → Ext X.K w H w1 H1 → EvR X.K w1 H1 e σ → PostT X W σ w1 H1 Q r → R d H1) : tT X W p σ H R := by
  cases hp : p e m with
  | none => rw [hp] at h; cases h
  | some o =>
    rw [hp] at h
    cases o with
    | ok d m1 => exact ⟨w, m, e, _, g, ev, hp, fun w1 H1 g1 x1 => hk d m1 w1 H1 h g1 x1 (ev.mono x1) (q.ext x1)⟩
    | exc c m1 =>
      have h : some (Out.exc c m1) = some r := h
      cases h
      exact ⟨w, m, e, _, g, ev, hp, q⟩

/-! ### names, constants -/
def pVar (i : Nat) : PEF := fun e m => match e[i]? with
  | some (some d) => some (.ok d m)
  | _ => none
def pC (d : D) : PEF := fun _ m => some (.ok d m)
section
variable {X : Cx} {W : WX}
theorem me_var (i : Nat) {x : Str} {pos : Pos} (hN : X.N[i]? = some x := by rfl) (hv : Vis X.env.scope x := by first | exact Or.inl rfl | exact Or.inr (Or.inl rfl) | exact Or.inr (Or.inr rfl)) (hd : (x == ("__debug__" : Str)) = false := by decide)
    (hcd : (x == ("__classdict__" : Str)) = false := by decide) : ME X W (.Name x pos) (pVar i) := by
  refine PE.imp (pe_var hN hv hd hcd) fun σ H Q ⟨w, m, e, r, g, ev, h, q⟩ => ?_
  unfold pVar at h
  split at h
  · rename_i d hd
    cases h
    obtain ⟨v, h1, h2⟩ := ev.2 i d hd
    exact ⟨v, h1, q.now g h2⟩
  · cases h
theorem me_const {e : Expr} {v : V} {d : D} (h : PE X e (tC v)) (hr : ∀ w H, Rep X.K w H d v) : ME X W e (pC d) :=
  PE.imp h fun σ H Q ⟨w, m, ev, r, g, _, h, q⟩ => by
    cases h
    exact q.now g (hr w H)
theorem me_int {i : Int} {j} {pos : Pos} : ME X W (.Constant (.int i) j pos) (pC (.int i)) := me_const pe_int fun _ _ => by simp only [Rep]
theorem me_bl {b : Bool} {j} {pos : Pos} : ME X W (.Constant (.bool b) j pos) (pC (.bl b)) := me_const pe_bl fun _ _ => by simp only [Rep]
theorem me_non {j} {pos : Pos} : ME X W (.Constant .none j pos) (pC .non) := me_const pe_non fun _ _ => by simp only [Rep]
theorem me_str {x : Str} {j} {pos : Pos} : ME X W (.Constant (.str x) j pos) (pC (.str x)) := me_const pe_str fun _ _ => by simp only [Rep]
/-- a module's constant -/
theorem me_glob {x : Str} {v : V} {u : Value} {d : D} {pos : Pos} (hg : Gl X x) (hm : X.mg x = some u) (r : RelV v u) (hr : ∀ w H, Rep X.K w H d v) (hd : (x == ("__debug__" : Str)) = false := by decide) : ME X W (.Name x pos) (pC d) := me_const (pe_glob hg hm r hd) hr
end

/-! ### operators on values -/
def SL : Nat := 16777216
theorem SL_eq : SL = sizeLine := by rw [sizeLine_eq]; rfl
/-- the items of a list -/
def asL (m : Mem) : D → Option (List D)
  | .lst l => some l
  | .ro l => some l
  | .loc i => match m[i]? with
    | some (.lst l) => some l
    | some (.frz l) => some l
    | none => none
  | _ => none
/-- .. of one that is no locked one -/
def asH (m : Mem) : D → Option (List D)
  | .lst l => some l
  | .loc i => match m[i]? with
    | some (.lst l) => some l
    | some (.frz l) => some l
    | none => none
  | _ => none
def asT : D → Option (List D)
  | .tup l => some l
  | _ => none
section
variable {K : PySem.W.Frag} {w : Wd} {H : Hp} {m : Mem} {d : D} {v : V} {l : List D}
theorem asH_rep (g : Good K w H m) (r : Rep K w H d v) (h : asH m d = some l) : ∃ a xs, v = .ref a ∧ H a = some (.lst xs) ∧ RepL K w H l xs := by
  cases d with
  | lst l' =>
    cases h
    simp only [Rep] at r
    obtain ⟨a, xs, r1, _, r2, r3⟩ := r
    exact ⟨a, xs, r1, r2, r3⟩
  | loc i =>
    simp only [Rep] at r
    obtain ⟨a, r1, r2⟩ := r
    obtain ⟨c, hc⟩ := g.cell r2
    have q := g.at' i c a hc r2
    simp only [asH, hc] at h
    cases c with
    | lst l' =>
      cases h
      obtain ⟨_, xs, q1, q2⟩ := q
      exact ⟨a, xs, r1, q1, q2⟩
    | frz l' =>
      cases h
      obtain ⟨_, xs, q1, q2⟩ := q
      exact ⟨a, xs, r1, q1, q2⟩
  | _ => cases h
theorem asL_rep (g : Good K w H m) (r : Rep K w H d v) (h : asL m d = some l) : ∃ a xs, v = .ref a ∧ SqL K H a xs ∧ RepL K w H l xs := by
  cases d with
  | ro l' =>
    cases h
    simp only [Rep] at r
    obtain ⟨a, xs, r1, r2, r3⟩ := r
    exact ⟨a, xs, r1, r2.sq, r3⟩
  | lst l' =>
    obtain ⟨a, xs, r1, r2, r3⟩ := asH_rep g r (l := l) (by cases h; rfl)
    exact ⟨a, xs, r1, SqL.of r2, r3⟩
  | loc i =>
    obtain ⟨a, xs, r1, r2, r3⟩ := asH_rep g r (l := l) h
    exact ⟨a, xs, r1, SqL.of r2, r3⟩
  | _ => cases h
theorem asT_rep (r : Rep K w H d v) (h : asT d = some l) : ∃ a xs, v = .ref a ∧ SqT K H a xs ∧ RepL K w H l xs := by
  cases d with
  | tup l' => cases h; simp only [Rep] at r; exact r
  | _ => cases h
theorem rep_int {i : Int} (r : Rep K w H (.int i) v) : v = .int i := by simpa only [Rep] using r
theorem rep_bl {i : Bool} (r : Rep K w H (.bl i) v) : v = .bl i := by simpa only [Rep] using r
theorem rep_str {i : Str} (r : Rep K w H (.str i) v) : v = .str i := by simpa only [Rep] using r
theorem rep_non (r : Rep K w H .non v) : v = .non := by simpa only [Rep] using r
theorem rep_tup {a : Addr} {xs : List V} (t : SqT K H a xs) (r : RepL K w H l xs) : Rep K w H (.tup l) (.ref a) := by
  simp only [Rep]
  exact ⟨a, xs, rfl, t, r⟩
/-- a new tuple -/
theorem new_tup {p : Addr} {xs : List V} (g : Good K w H m) (hp : H p = none) (r : RepL K w H l xs) : Rep K w (upd H p (.tup xs)) (.tup l) (.ref p) := rep_tup (SqT.of upd_same) (r.mono (Ext.new g hp))
theorem new_lst {p : Addr} {xs : List V} (g : Good K w H m) (hp : H p = none) (r : RepL K w H l xs) : Rep K (w.fzn p) (upd H p (.lst xs)) (.lst l) (.ref p) := by
  simp only [Rep]
  exact ⟨p, xs, rfl, .inl rfl, upd_same, r.mono ((Ext.new g hp).trans Ext.fzn)⟩
end

abbrev VK2 := D → D → Mem → Option D
/-- a two-place operator by plain data -/
def r2of (X : Cx) (o : VK2) : R2 := fun x y H Q => ∃ w m d e r, Good X.K w H m ∧ Rep X.K w H d x ∧ Rep X.K w H e y ∧ o d e m = some r ∧ ∀ w' v H', Good X.K w' H' m → Ext X.K w H w' H' → Rep X.K w' H' r v → Q v H'
def lift1 (r : Option D) (m : Mem) : Option (Out D) := match r with
  | some d => some (.ok d m)
  | none => none
def pBin (o : VK2) (p q : PEF) : PEF := fun e m => bnd (p e m) fun a m1 => bnd (q e m1) fun b m2 => lift1 (o a b m2) m2
theorem lift1_some {r : Option D} {m : Mem} {o : Out D} (h : lift1 r m = some o) : ∃ d, r = some d ∧ o = .ok d m := by
  cases r with
  | none => cases h
  | some d => cases h; exact ⟨d, rfl, rfl⟩
section
variable {X : Cx} {W : WX} {a b c : Expr} {p q p' : PEF} {pos : Pos}
theorem tOp_of {o : VK2} {σ : L2.St} {H : Hp} {Q : VK} (h : tM X W (pBin o p q) σ H Q) : tOp (r2of X o) (tM X W p) (tM X W q) σ H Q := by
  obtain ⟨w, m, e, r, g, ev, h, qq⟩ := h
  refine tM_bnd g ev h qq fun d1 m1 w1 v1 H1 h1 g1 x1 r1 ev1 q1 => ?_
  refine tM_bnd g1 ev1 h1 q1 fun d2 m2 w2 v2 H2 h2 g2 x2 r2 ev2 q2 => ?_
  obtain ⟨d, hd, rfl⟩ := lift1_some h2
  exact ⟨w2, m2, d1, d2, d, g2, r1.mono x2, r2, hd, q2⟩
theorem me_bin {op : Operator} {o : VK2} (ho : OpR X (binaryOp op) (r2of X o)) (ha : ME X W a p) (hb : ME X W b q) : ME X W (.BinOp a op b pos) (pBin o p q) :=
  PE.imp (pe_op ho ha hb) fun _ _ _ h => tOp_of h
theorem me_cmp {op : CmpOp} {o : VK2} (ho : OpR X (compareOp op) (r2of X o)) (ha : ME X W a p) (hb : ME X W b q) (hm : behindInMarks op b = false) : ME X W (.Compare a [op] [b] pos) (pBin o p q) :=
  PE.imp (pe_cmpR ho ha hb hm) fun _ _ _ h => tOp_of h
end

def oAdd : VK2 := fun a b m => match a, b with
  | .int i, .int j => some (.int (i + j))
  | .int i, .bl k => some (.int (i + b2i k))
  | .str x, .str y => if x.length + y.length ≤ SL then some (.str (x ++ y)) else none
  | .tup l, .tup r => if l.length + r.length ≤ SL then some (.tup (l ++ r)) else none
  | a, b => match asH m a, asH m b with
    | some l, some r => if l.length + r.length ≤ SL then some (.lst (l ++ r)) else none
    | _, _ => none
section
variable {X : Cx}
theorem add_tup {pins : List (Addr × Obj)} {s : Shared} {σ : L2.St} {H : Hp} {x y : V} {v u : Value} {Q : VK} {w : Wd} {m : Mem} {l r : List D} (I : Inv X pins σ H s) (rx : RelV x v) (ry : RelV y u)
    (g : Good X.K w H m) (hx : Rep X.K w H (.tup l) x) (hy : Rep X.K w H (.tup r) y) (hz : l.length + r.length ≤ SL) (q : ∀ w' v H', Good X.K w' H' m → Ext X.K w H w' H' → Rep X.K w' H' (.tup (l ++ r)) v → Q v H') :
    wpAny (model X.prog X.w) X.A (binaryOp .Add v u) (EP X pins σ Q) X.xe s := by
  obtain ⟨a, xs, rfl, ha, hl⟩ := asT_rep hx rfl
  obtain ⟨b, ys, rfl, hb, hr⟩ := asT_rep hy rfl
  refine op_catA pins s σ H _ _ v u Q I rx ry ⟨a, b, xs, ys, rfl, rfl, ha, hb, by rw [hl.len, hr.len, ← SL_eq]; exact hz, fun e => ?_, fun _ e => ?_, fun _ _ p hp => ?_⟩
  · subst e
    have : l = [] := by cases l with
      | nil => rfl
      | cons d l => obtain ⟨_, _, e, _⟩ := RepL.cons_iff.mp hl; cases e
    subst this
    exact q w _ H g Ext.refl hy
  · subst e
    have : r = [] := by cases r with
      | nil => rfl
      | cons d l => obtain ⟨_, _, e, _⟩ := RepL.cons_iff.mp hr; cases e
    subst this
    rw [List.append_nil] at q
    exact q w _ H g Ext.refl hx
  · exact q w _ _ (g.new hp) (Ext.new g hp) (new_tup g hp (hl.append hr))
theorem add_lst {pins : List (Addr × Obj)} {s : Shared} {σ : L2.St} {H : Hp} {x y : V} {v u : Value} {Q : VK} {w : Wd} {m : Mem} {d e : D} {l r : List D} (I : Inv X pins σ H s) (rx : RelV x v) (ry : RelV y u)
    (g : Good X.K w H m) (hx : Rep X.K w H d x) (hy : Rep X.K w H e y) (hl : asH m d = some l) (hr : asH m e = some r) (hz : l.length + r.length ≤ SL) (q : ∀ w' v H', Good X.K w' H' m → Ext X.K w H w' H' → Rep X.K w' H' (.lst (l ++ r)) v → Q v H') :
    wpAny (model X.prog X.w) X.A (binaryOp .Add v u) (EP X pins σ Q) X.xe s := by
  obtain ⟨a, xs, rfl, ha, hl⟩ := asH_rep g hx hl
  obtain ⟨b, ys, rfl, hb, hr⟩ := asH_rep g hy hr
  refine op_cat pins s σ H _ _ v u Q I rx ry ⟨a, b, xs, ys, rfl, rfl, ha, hb, by rw [hl.len, hr.len, ← SL_eq]; exact hz, fun p hp => ?_⟩
  exact q (w.fzn p) _ _ (g.newF hp) ((Ext.new g hp).trans Ext.fzn) (new_lst g hp (hl.append hr))
theorem op_oAdd : OpR X (binaryOp .Add) (r2of X oAdd) := by
  intro pins s σ H x y v u Q I rx ry h
  obtain ⟨w, m, d, e, r, g, hx, hy, h, q⟩ := h
  unfold oAdd at h
  split at h
  · obtain rfl := rep_int hx
    obtain rfl := rep_int hy
    cases h
    exact op_add pins s σ H _ _ v u Q I rx ry ⟨_, _, rfl, rfl, q w _ H g Ext.refl (by simp only [Rep])⟩
  · obtain rfl := rep_int hx
    obtain rfl := rep_bl hy
    cases h
    exact op_add_ib pins s σ H _ _ v u Q I rx ry ⟨_, _, rfl, rfl, q w _ H g Ext.refl (by simp only [Rep])⟩
  · obtain rfl := rep_str hx
    obtain rfl := rep_str hy
    split at h
    · rename_i hz
      cases h
      exact op_add_str pins s σ H _ _ v u Q I rx ry ⟨_, _, rfl, rfl, by rw [← SL_eq]; exact hz, q w _ H g Ext.refl (by simp only [Rep])⟩
    · cases h
  · split at h
    · rename_i hz
      cases h
      exact add_tup I rx ry g hx hy hz q
    · cases h
  · split at h
    · rename_i l r hl hr
      split at h
      · rename_i hz
        cases h
        exact add_lst I rx ry g hx hy hl hr hz q
      · cases h
    · cases h
end

def oSub : VK2 := fun a b _ => match a, b with
  | .int i, .int j => some (.int (i - j))
  | _, _ => none
section
variable {X : Cx}
theorem op_oSub : OpR X (binaryOp .Sub) (r2of X oSub) := by
  intro pins s σ H x y v u Q I rx ry h
  obtain ⟨w, m, d, e, r, g, hx, hy, h, q⟩ := h
  unfold oSub at h
  split at h
  · obtain rfl := rep_int hx
    obtain rfl := rep_int hy
    cases h
    exact op_sub pins s σ H _ _ v u Q I rx ry ⟨_, _, rfl, rfl, q w _ H g Ext.refl (by simp only [Rep])⟩
  · cases h
end
end Z

set_option maxRecDepth 100000
set_option maxHeartbeats 4000000
set_option autoImplicit false
namespace Z
open PySem PySem.Spec PyProof.Rows L2

/-! ### more operators -/
def oSub2 : VK2 := fun a b _ => match a, b with
  | .int i, .int j => some (.int (i - j))
  | .bl i, .bl j => some (.int (b2i i - b2i j))
  | _, _ => none
def mulFits (i j : Int) : Bool := decide (i.natAbs < 18446744073709551616) || decide (j.natAbs < 18446744073709551616) || decide (i.natAbs.log2 + j.natAbs.log2 < 1000000)
theorem mulFits.ok {i j : Int} (h : mulFits i j = true) : IntMulOk i j := by
  unfold mulFits at h
  rw [Bool.or_eq_true, Bool.or_eq_true] at h
  rcases h with (h | h) | h
  · have h := of_decide_eq_true h
    exact CMul.ok (.inl (by omega))
  · have h := of_decide_eq_true h
    exact CMul.ok (.inr (by omega))
  · have h := of_decide_eq_true h
    exact CMulW.ok h
def divFits (j : Int) : Bool := decide (j ≠ 0) && decide (j.natAbs.log2 < 9000)
def oRepT (l : List D) (k : Int) : Option D := if k ≤ 1000 ∧ l.length ≤ 1000 then some (.tup (List.replicate k.toNat l).flatten) else none
def oMul : VK2 := fun a b m => match a, b with
  | .int i, .int j => if mulFits i j then some (.int (i * j)) else none
  | .tup l, .int k => if -(2 ^ 63) ≤ k ∧ k ≤ 1000 ∧ l.length ≤ 1000 then some (.tup (List.replicate k.toNat l).flatten) else none
  | .str x, .int k => if 0 ≤ k ∧ k ≤ 100000 ∧ x.length ≤ 100 then some (.str (Txt.mul x k)) else none
  | a, .int k => match asH m a with
    | some l => if -(2 ^ 63) ≤ k ∧ k < 2 ^ 63 ∧ l.length * k.toNat ≤ SL then some (.lst (List.replicate k.toNat l).flatten) else none
    | none => none
  | _, _ => none
def oDiv : VK2 := fun a b _ => match a, b with
  | .int i, .int j => if divFits j then some (.int (i.fdiv j)) else none
  | _, _ => none
def oMod : VK2 := fun a b _ => match a, b with
  | .int i, .int j => if j ≠ 0 then some (.int (i.fmod j)) else none
  | _, _ => none
def oPow : VK2 := fun a b _ => match a, b with
  | .int i, .int j => if 0 ≤ j ∧ j ≤ 1000000 ∧ i.natAbs < 2 ^ 64 then some (.int (i ^ j.toNat)) else none
  | _, _ => none
section
variable {X : Cx}
theorem rel_int {i : Int} {v : Value} (r : RelV (.int i) v) : ∃ t, v = .int i t := r
theorem op_oSub2 : OpR X (binaryOp .Sub) (r2of X oSub2) := by
  intro pins s σ H x y v u Q I rx ry h
  obtain ⟨w, m, d, e, r, g, hx, hy, h, q⟩ := h
  unfold oSub2 at h
  split at h
  · obtain rfl := rep_int hx
    obtain rfl := rep_int hy
    cases h
    exact op_sub pins s σ H _ _ v u Q I rx ry ⟨_, _, rfl, rfl, q w _ H g Ext.refl (by simp only [Rep])⟩
  · obtain rfl := rep_bl hx
    obtain rfl := rep_bl hy
    cases h
    cases rx
    cases ry
    exact PyProof.Rows.sub_bool ⟨.int _, H, I.tok _, ⟨_, rfl⟩, q w _ H g Ext.refl (by simp only [Rep])⟩
  · cases h
theorem rel_of_int2 {pins : List (Addr × Obj)} {s : Shared} {σ : L2.St} {H : Hp} {Q : VK} {i : Int} {w : Wd} {m : Mem} (I : Inv X pins σ H s) (g : Good X.K w H m) (q : ∀ w' v H', Good X.K w' H' m → Ext X.K w H w' H' → Rep X.K w' H' (.int i) v → Q v H') :
    EP X pins σ Q (.int i s.toks) { s with toks := s.toks + 1 } := ⟨.int i, H, I.tok _, ⟨_, rfl⟩, q w _ H g Ext.refl (by simp only [Rep])⟩
theorem rep_flat {K : PySem.W.Frag} {w : Wd} {H : Hp} {l : List D} {xs : List V} (h : RepL K w H l xs) : ∀ k : Nat, RepL K w H (List.replicate k l).flatten (List.replicate k xs).flatten
  | 0 => RepL.nil
  | k + 1 => by
    rw [List.replicate_succ, List.replicate_succ, List.flatten_cons, List.flatten_cons]
    exact h.append (rep_flat h k)
/-- t * 0, t * 1, () * k -/
theorem tuple_mul1 (l : Addr) (items : Array Value) (n : Nat) (dd : Option Addr) (sl : Array (Option Value)) (x : Int) (u : Tok) (c0 : (decide (x < -(2 ^ 63)) || decide (x ≥ 2 ^ 63)) = false) (c1 : (items.isEmpty || x == 1) = true) :
    Meets (Builtin.«tuple.__mul__» ⟨[.ref l, .int x u], []⟩) (fun _ R s => s.heap.get? l = some { cls := .type "tuple", dict := dd, data := .seq items n, slots := sl } ∧ R (.ok (.ret (Value.ref l))) s) :=
  .of_wp fun prog w A R s h => by
    obtain ⟨hp, g, d, tk, os⟩ := s
    obtain ⟨hl, h⟩ := h
    have f1 := AutoSeq1.idx_int
    wp_walk using wpAny_loadPart' hl
    repeat (first
      | (refine wpAny_ite_false (decide_eq_false (by rw [c0]; exact Bool.false_ne_true)) ?_; wp_walk using wpAny_loadPart' hl)
      | (refine wpAny_ite_true (decide_eq_true (by rw [c1])) ?_; wp_walk using wpAny_loadPart' hl))
    exact ⟨_, rfl, h⟩
theorem tuple_mul0 (l : Addr) (items : Array Value) (n : Nat) (dd : Option Addr) (sl : Array (Option Value)) (x : Int) (u : Tok) (c0 : (decide (x < -(2 ^ 63)) || decide (x ≥ 2 ^ 63)) = false) (c1 : (items.isEmpty || x == 1) = false) (c2 : (decide (x ≤ 0) || items.isEmpty) = true) :
    Meets (Builtin.«tuple.__mul__» ⟨[.ref l, .int x u], []⟩) (fun _ R s => s.heap.get? l = some { cls := .type "tuple", dict := dd, data := .seq items n, slots := sl } ∧
      R (.ok (.ret (Value.ref s.heap.objs.size))) { s with heap := s.heap.push { cls := Value.type "tuple", data := Data.seq #[] }, toks := s.toks }) :=
  .of_wp fun prog w A R s h => by
    obtain ⟨hp, g, d, tk, os⟩ := s
    obtain ⟨hl, h⟩ := h
    have f1 := AutoSeq1.idx_int
    wp_walk using wpAny_loadPart' hl
    repeat (first
      | (refine wpAny_ite_false (decide_eq_false (by rw [c0]; exact Bool.false_ne_true)) ?_; wp_walk using wpAny_loadPart' hl)
      | (refine wpAny_ite_false (decide_eq_false (by rw [c1]; exact Bool.false_ne_true)) ?_; wp_walk using wpAny_loadPart' hl)
      | (refine wpAny_ite_true (decide_eq_true (by rw [c2])) ?_; wp_walk using wpAny_loadPart' hl))
    exact ⟨_, rfl, h⟩
theorem mul_tup {pins : List (Addr × Obj)} {s : Shared} {σ : L2.St} {H : Hp} {x : V} {v u : Value} {Q : VK} {w : Wd} {m : Mem} {l : List D} {k : Int} (I : Inv X pins σ H s) (rx : RelV x v) (ry : RelV (.int k) u)
    (g : Good X.K w H m) (hx : Rep X.K w H (.tup l) x) (hk : -(2 ^ 63) ≤ k ∧ k ≤ 1000 ∧ l.length ≤ 1000) (q : ∀ w' v H', Good X.K w' H' m → Ext X.K w H w' H' → Rep X.K w' H' (.tup (List.replicate k.toNat l).flatten) v → Q v H') :
    wpAny (model X.prog X.w) X.A (binaryOp .Mult v u) (EP X pins σ Q) X.xe s := by
  obtain ⟨h0, h1, h2⟩ := hk
  obtain ⟨a, xs, rfl, ha, hl⟩ := asT_rep hx rfl
  have hlen := hl.len
  by_cases big : 2 ≤ k ∧ xs ≠ []
  · exact op_repT pins s σ H _ _ v u Q I rx ry ⟨a, k, xs, rfl, rfl, ha, big.2, big.1, h1, by omega, fun p hp => q w _ _ (g.new hp) (Ext.new g hp) (new_tup g hp (rep_flat hl _))⟩
  · cases rx
    obtain ⟨t, rfl⟩ := ry
    obtain ⟨its, r, ⟨⟨cls, dd, data, sl⟩, ho, hc, n, hd⟩, hs⟩ := I.tuple ha
    simp only at hc hd
    subst hc hd
    have hle : its.length = xs.length := r.length.symm
    have c0 : (decide (k < -(2 ^ 63)) || decide (k ≥ 2 ^ 63)) = false := by
      rw [decide_eq_false (by omega), decide_eq_false (by omega)] <;> rfl
    by_cases same : (its.toArray.isEmpty || k == 1) = true
    · refine wpAny_binaryOp_repeat_ref (T := "tuple") (U := "int") (by decide) ⟨_, ho, rfl⟩ (fun s' => typeIs_int s' k t) noFill_tuple_mul F.fills_int_mul F.slot_int_rmul repeat_tuple F.slot_int_index.lookup
        (call_meets F.slot_int_rmul (typeIs_int s k t) F.entry_int_rmul (F.args_int_rmul_2 _ _) (int_rmul_tuple k t a its.toArray n dd sl)
          ⟨ho, rfl, ⟨_, ho, rfl⟩, call_meets F.slot_tuple_mul ⟨_, ho, rfl⟩ F.entry_tuple_mul (F.args_tuple_mul_2 _ _) (tuple_mul1 a its.toArray n dd sl k t c0 same) ⟨ho, ?_⟩⟩)
      have e : (List.replicate k.toNat l).flatten = l := by
        rw [Bool.or_eq_true] at same
        rcases same with e | e
        · have : its = [] := by simpa using e
          rw [this] at hle
          have : l = [] := List.eq_nil_of_length_eq_zero (by rw [← hlen, ← hle]; rfl)
          subst this
          clear h0 h1 h2 q
          induction k.toNat with
          | zero => rfl
          | succ n ih => rw [List.replicate_succ, List.flatten_cons, ih]; rfl
        · have : k = 1 := by simpa using e
          subst this
          show (List.replicate 1 l).flatten = l
          rw [List.replicate_one, List.flatten_singleton]
      rw [e] at q
      exact ⟨.ref a, H, I, rfl, q w _ H g Ext.refl hx⟩
    · have same : (its.toArray.isEmpty || k == 1) = false := by simpa using same
      have hne : its.toArray.isEmpty = false := (Bool.or_eq_false_iff.mp same).1
      have hk1 : k ≠ 1 := by simpa using (Bool.or_eq_false_iff.mp same).2
      have hxs : xs ≠ [] := fun z => by
        subst z
        have : its = [] := List.eq_nil_of_length_eq_zero hle
        rw [this] at hne
        cases hne
      have hk0 : k ≤ 0 := by
        have : ¬ 2 ≤ k := fun z => big ⟨z, hxs⟩
        omega
      refine wpAny_binaryOp_repeat_ref (T := "tuple") (U := "int") (by decide) ⟨_, ho, rfl⟩ (fun s' => typeIs_int s' k t) noFill_tuple_mul F.fills_int_mul F.slot_int_rmul repeat_tuple F.slot_int_index.lookup
        (call_meets F.slot_int_rmul (typeIs_int s k t) F.entry_int_rmul (F.args_int_rmul_2 _ _) (int_rmul_tuple k t a its.toArray n dd sl)
          ⟨ho, rfl, ⟨_, ho, rfl⟩, call_meets F.slot_tuple_mul ⟨_, ho, rfl⟩ F.entry_tuple_mul (F.args_tuple_mul_2 _ _) (tuple_mul0 a its.toArray n dd sl k t c0 same (by rw [decide_eq_true hk0]; rfl)) ⟨ho, ?_⟩⟩)
      have e : k.toNat = 0 := by omega
      rw [e] at q
      have hp : H s.heap.objs.size = none := I.hok.fresh (Nat.le_refl _)
      refine ⟨.ref s.heap.objs.size, _, I.laid (t' := s.toks) (o := .tup []) (fun b ob q => Heap.get?_push_of_some _ q) (Nat.le_refl _) ?_, rfl, q w _ _ (g.new hp) (Ext.new g hp) (new_tup g hp RepL.nil)⟩
      exact ⟨Nat.zero_le _, [], .nil, IsTup.new _ _⟩
theorem op_oMul : OpR X (binaryOp .Mult) (r2of X oMul) := by
  intro pins s σ H x y v u Q I rx ry h
  obtain ⟨w, m, d, e, r, g, hx, hy, h, q⟩ := h
  unfold oMul at h
  split at h
  · obtain rfl := rep_int hx
    obtain rfl := rep_int hy
    split at h
    · rename_i hf
      cases h
      obtain ⟨t, rfl⟩ := rel_int rx
      obtain ⟨t', rfl⟩ := rel_int ry
      exact mul_int (rel_of_int2 I g q) (mulFits.ok hf)
    · cases h
  · obtain rfl := rep_int hy
    split at h
    · rename_i hf
      cases h
      exact mul_tup I rx ry g hx hf q
    · cases h
  · obtain rfl := rep_str hx
    obtain rfl := rep_int hy
    split at h
    · rename_i z k hf
      cases h
      obtain ⟨t, rfl⟩ := rx
      obtain ⟨t', rfl⟩ := ry
      obtain ⟨f0, f1, f2⟩ := hf
      have hm : z.length * k.toNat ≤ 100 * 100000 := Nat.mul_le_mul f2 (by omega)
      refine SB.mul ⟨by rw [decide_eq_false (by omega), decide_eq_false (by omega)] <;> rfl, fun h1 _ => ?_, fun h1 _ => ?_⟩ fun t' k' => ⟨.str _, H, I.tok _, ⟨_, rfl⟩, q w _ H g Ext.refl (by simp only [Rep])⟩
      · have : (100 : Int) ≤ (2 ^ 63 - 1) / k := by
          apply Int.le_ediv_of_mul_le (by omega)
          omega
        omega
      · exact decide_eq_false (by rw [sizeLine_eq]; omega)
    · cases h
  · obtain rfl := rep_int hy
    split at h
    · rename_i l hl
      split at h
      · rename_i hf
        cases h
        obtain ⟨a, xs, rfl, ha, hr⟩ := asH_rep g hx hl
        refine op_rep pins s σ H _ _ v u Q I rx ry ⟨a, _, xs, rfl, rfl, ha, hf.1, hf.2.1, by rw [hr.len, ← SL_eq]; exact hf.2.2, fun p hp => ?_⟩
        exact q (w.fzn p) _ _ (g.newF hp) ((Ext.new g hp).trans Ext.fzn) (new_lst g hp (rep_flat hr _))
      · cases h
    · cases h
  · cases h
theorem op_oDiv : OpR X (binaryOp .FloorDiv) (r2of X oDiv) := by
  intro pins s σ H x y v u Q I rx ry h
  obtain ⟨w, m, d, e, r, g, hx, hy, h, q⟩ := h
  unfold oDiv at h
  split at h
  · obtain rfl := rep_int hx
    obtain rfl := rep_int hy
    split at h
    · rename_i hf
      cases h
      obtain ⟨t, rfl⟩ := rel_int rx
      obtain ⟨t', rfl⟩ := rel_int ry
      unfold divFits at hf
      rw [Bool.and_eq_true] at hf
      exact floordiv_int (of_decide_eq_true hf.1) (rel_of_int2 I g q) (.inl (PyProof.noPylong_of_log2 (of_decide_eq_true hf.2)))
    · cases h
  · cases h
theorem op_oMod : OpR X (binaryOp .Mod) (r2of X oMod) := by
  intro pins s σ H x y v u Q I rx ry h
  obtain ⟨w, m, d, e, r, g, hx, hy, h, q⟩ := h
  unfold oMod at h
  split at h
  · obtain rfl := rep_int hx
    obtain rfl := rep_int hy
    split at h
    · rename_i hf
      cases h
      obtain ⟨t, rfl⟩ := rel_int rx
      obtain ⟨t', rfl⟩ := rel_int ry
      exact mod_int' hf (rel_of_int2 I g q)
    · cases h
  · cases h
theorem op_oPow : OpR X (binaryOp .Pow) (r2of X oPow) := by
  intro pins s σ H x y v u Q I rx ry h
  obtain ⟨w, m, d, e, r, g, hx, hy, h, q⟩ := h
  unfold oPow at h
  split at h
  · obtain rfl := rep_int hx
    obtain rfl := rep_int hy
    split at h
    · rename_i hf
      cases h
      exact op_pow pins s σ H _ _ v u Q I rx ry ⟨_, _, rfl, rfl, hf, q w _ H g Ext.refl (by simp only [Rep])⟩
    · cases h
  · cases h
/-! in place: ints alone -/
def oIAdd : VK2 := fun a b _ => match a, b with
  | .int i, .int j => some (.int (i + j))
  | .str x, .str y => if x.length + y.length ≤ SL then some (.str (x ++ y)) else none
  | _, _ => none
def oIMul : VK2 := fun a b _ => match a, b with
  | .int i, .int j => if mulFits i j then some (.int (i * j)) else none
  | _, _ => none
theorem op_oIAdd : OpR X (inplaceOp .Add) (r2of X oIAdd) := by
  intro pins s σ H x y v u Q I rx ry h
  obtain ⟨w, m, d, e, r, g, hx, hy, h, q⟩ := h
  unfold oIAdd at h
  split at h
  · obtain rfl := rep_int hx
    obtain rfl := rep_int hy
    cases h
    obtain ⟨t, rfl⟩ := rel_int rx
    obtain ⟨t', rfl⟩ := rel_int ry
    exact iadd_int (rel_of_int2 I g q)
  · obtain rfl := rep_str hx
    obtain rfl := rep_str hy
    split at h
    · rename_i hz
      cases h
      exact iop_add_str pins s σ H _ _ v u Q I rx ry ⟨_, _, rfl, rfl, by rw [← SL_eq]; exact hz, q w _ H g Ext.refl (by simp only [Rep])⟩
    · cases h
  · cases h
theorem op_oISub : OpR X (inplaceOp .Sub) (r2of X oSub) := by
  intro pins s σ H x y v u Q I rx ry h
  obtain ⟨w, m, d, e, r, g, hx, hy, h, q⟩ := h
  unfold oSub at h
  split at h
  · obtain rfl := rep_int hx
    obtain rfl := rep_int hy
    cases h
    obtain ⟨t, rfl⟩ := rel_int rx
    obtain ⟨t', rfl⟩ := rel_int ry
    exact isub_int (rel_of_int2 I g q)
  · cases h
theorem op_oIMul : OpR X (inplaceOp .Mult) (r2of X oIMul) := by
  intro pins s σ H x y v u Q I rx ry h
  obtain ⟨w, m, d, e, r, g, hx, hy, h, q⟩ := h
  unfold oIMul at h
  split at h
  · obtain rfl := rep_int hx
    obtain rfl := rep_int hy
    split at h
    · rename_i hf
      cases h
      obtain ⟨t, rfl⟩ := rel_int rx
      obtain ⟨t', rfl⟩ := rel_int ry
      exact PyProof.Rows.imul_int (rel_of_int2 I g q) (mulFits.ok hf)
    · cases h
  · cases h
theorem op_oIDiv : OpR X (inplaceOp .FloorDiv) (r2of X oDiv) := by
  intro pins s σ H x y v u Q I rx ry h
  obtain ⟨w, m, d, e, r, g, hx, hy, h, q⟩ := h
  unfold oDiv at h
  split at h
  · obtain rfl := rep_int hx
    obtain rfl := rep_int hy
    split at h
    · rename_i hf
      cases h
      obtain ⟨t, rfl⟩ := rel_int rx
      obtain ⟨t', rfl⟩ := rel_int ry
      unfold divFits at hf
      rw [Bool.and_eq_true] at hf
      exact ifloordiv_int (of_decide_eq_true hf.1) (rel_of_int2 I g q) (.inl (PyProof.noPylong_of_log2 (of_decide_eq_true hf.2)))
    · cases h
  · cases h
theorem op_oIMod : OpR X (inplaceOp .Mod) (r2of X oMod) := by
  intro pins s σ H x y v u Q I rx ry h
  obtain ⟨w, m, d, e, r, g, hx, hy, h, q⟩ := h
  unfold oMod at h
  split at h
  · obtain rfl := rep_int hx
    obtain rfl := rep_int hy
    split at h
    · rename_i hf
      cases h
      obtain ⟨t, rfl⟩ := rel_int rx
      obtain ⟨t', rfl⟩ := rel_int ry
      exact imod_int hf (rel_of_int2 I g q)
    · cases h
  · cases h
end
end Z

set_option maxRecDepth 100000
set_option maxHeartbeats 4000000
set_option autoImplicit false
namespace Z
open PySem PySem.Spec PyProof.Rows L2

/-! ### comparisons -/
mutual
def toPy : D → Option PyData
  | .non => some .none
  | .bl b => some (.bool b)
  | .int i => some (.int i)
  | .str s => some (.str s)
  | .tup l => match toPyL l with
    | some l => some (.tuple l)
    | none => none
  | .lst l => match toPyL l with
    | some l => some (.list l)
    | none => none
  | .ro l => match toPyL l with
    | some l => some (.list l)
    | none => none
  | .loc _ => none
def toPyL : List D → Option (List PyData)
  | [] => some []
  | d :: l => match toPy d, toPyL l with
    | some d, some l => some (d :: l)
    | _, _ => none
end
mutual
theorem toPy_dp {K : PySem.W.Frag} {w : Wd} {H : Hp} : ∀ {d : D} {v : V} {p : PyData}, Rep K w H d v → toPy d = some p → Dp K H v p
  | .non, _, _, r, h => by simp only [Rep] at r; subst r; simp only [toPy] at h; cases h; exact .non
  | .bl b, _, _, r, h => by simp only [Rep] at r; subst r; simp only [toPy] at h; cases h; exact .bl b
  | .int b, _, _, r, h => by simp only [Rep] at r; subst r; simp only [toPy] at h; cases h; exact .int b
  | .str b, _, _, r, h => by simp only [Rep] at r; subst r; simp only [toPy] at h; cases h; exact .str b
  | .tup l, _, _, r, h => by
    simp only [Rep] at r
    obtain ⟨a, xs, rfl, t, q⟩ := r
    simp only [toPy] at h
    split at h
    · rename_i l' hl
      cases h
      exact .tup t (toPy_dpL q hl)
    · cases h
  | .lst l, _, _, r, h => by
    simp only [Rep] at r
    obtain ⟨a, xs, rfl, _, t, q⟩ := r
    simp only [toPy] at h
    split at h
    · rename_i l' hl
      cases h
      exact .lst (SqL.of t) (toPy_dpL q hl)
    · cases h
  | .ro l, _, _, r, h => by
    simp only [Rep] at r
    obtain ⟨a, xs, rfl, t, q⟩ := r
    simp only [toPy] at h
    split at h
    · rename_i l' hl
      cases h
      exact .lst t.sq (toPy_dpL q hl)
    · cases h
  | .loc _, _, _, _, h => by simp only [toPy] at h; cases h
theorem toPy_dpL {K : PySem.W.Frag} {w : Wd} {H : Hp} : ∀ {l : List D} {vs : List V} {ps : List PyData}, RepL K w H l vs → toPyL l = some ps → DpAll K H vs ps
  | [], _, _, r, h => by simp only [RepL] at r; subst r; simp only [toPyL] at h; cases h; exact .nil
  | d :: l, _, _, r, h => by
    simp only [RepL] at r
    obtain ⟨v, vs, rfl, r1, r2⟩ := r
    simp only [toPyL] at h
    split at h
    · rename_i p ps h1 h2
      cases h
      exact .cons (toPy_dp r1 h1) (toPy_dpL r2 h2)
    · cases h
end
/-- a cell read as data -/
def deref (m : Mem) : D → D
  | .loc i => match m[i]? with
    | some (.lst l) => .lst l
    | some (.frz l) => .lst l
    | none => .loc i
  | d => d
theorem deref_dp {K : PySem.W.Frag} {w : Wd} {H : Hp} {m : Mem} {d : D} {v : V} {p : PyData} (g : Good K w H m) (r : Rep K w H d v) (h : toPy (deref m d) = some p) : Dp K H v p := by
  cases d with
  | loc i =>
    have hr := r
    simp only [Rep] at r
    obtain ⟨a, r1, r2⟩ := r
    obtain ⟨c, hc⟩ := g.cell r2
    have key : ∀ l, asH m (.loc i) = some l → deref m (.loc i) = .lst l → Dp K H v p := fun l h1 h2 => by
      obtain ⟨a, xs, rfl, e1, e2⟩ := asH_rep g hr h1
      rw [h2] at h
      simp only [toPy] at h
      split at h
      · rename_i l' hl
        cases h
        exact .lst (SqL.of e1) (toPy_dpL e2 hl)
      · cases h
    cases c with
    | lst l => exact key l (by simp only [asH, hc]) (by simp only [deref, hc])
    | frz l => exact key l (by simp only [asH, hc]) (by simp only [deref, hc])
  | _ => exact toPy_dp r h
def oEqD (m : Mem) (a b : D) : Option Bool := match toPy (deref m a), toPy (deref m b) with
  | some p, some q => if SeqAt.shaped p && SeqAt.shaped q then some (PyData.eqv p q) else none
  | _, _ => none
def oEqB (a b : D) (m : Mem) : Option Bool := match a, b with
  | .int i, .int j => some (decide (i = j))
  | .str i, .str j => some (decide (i = j))
  | .bl i, .bl j => some (decide (i = j))
  | .non, .non => some true
  | .non, .int _ => some false
  | .int _, .non => some false
  | .str _, .non => some false
  | .non, .str _ => some false
  | .int _, .str _ => some false
  | .str _, .int _ => some false
  | a, b => oEqD m a b
def toBl (r : Option Bool) : Option D := match r with
  | some b => some (.bl b)
  | none => none
def toNbl (r : Option Bool) : Option D := match r with
  | some b => some (.bl (!b))
  | none => none
def oEq : VK2 := fun a b m => toBl (oEqB a b m)
def oNe : VK2 := fun a b m => toNbl (oEqB a b m)
theorem toBl_some {r : Option Bool} {d : D} (h : toBl r = some d) : ∃ b, r = some b ∧ d = .bl b := by
  cases r with
  | none => cases h
  | some b => cases h; exact ⟨b, rfl, rfl⟩
theorem toNbl_some {r : Option Bool} {d : D} (h : toNbl r = some d) : ∃ b, r = some b ∧ d = .bl (!b) := by
  cases r with
  | none => cases h
  | some b => cases h; exact ⟨b, rfl, rfl⟩
section
variable {X : Cx}
theorem eq_run {neg : Bool} {op : CmpOp} (h1 : OpR X (compareOp op) (fun x y H Q => scal x y = true ∧ Q (.bl (if neg then !decide (x = y) else decide (x = y))) H))
    (h2 : OpR X (compareOp op) (fun x y H Q => ∃ d e, Dp X.K H x d ∧ Dp X.K H y e ∧ SeqAt.shaped d = true ∧ SeqAt.shaped e = true ∧ Q (.bl (if neg then !PyData.eqv d e else PyData.eqv d e)) H))
    {pins : List (Addr × Obj)} {s : Shared} {σ : L2.St} {H : Hp} {x y : V} {v u : Value} {Q : VK} {w : Wd} {m : Mem} {d e : D} {b : Bool} (I : Inv X pins σ H s) (rx : RelV x v) (ry : RelV y u)
    (g : Good X.K w H m) (hx : Rep X.K w H d x) (hy : Rep X.K w H e y) (h : oEqB d e m = some b) (q : Q (.bl (if neg then !b else b)) H) :
    wpAny (model X.prog X.w) X.A (compareOp op v u) (EP X pins σ Q) X.xe s := by
  unfold oEqB at h
  split at h
  · obtain rfl := rep_int hx
    obtain rfl := rep_int hy
    cases h
    exact h1 pins s σ H _ _ v u Q I rx ry ⟨rfl, by simpa using q⟩
  · obtain rfl := rep_str hx
    obtain rfl := rep_str hy
    cases h
    exact h1 pins s σ H _ _ v u Q I rx ry ⟨rfl, by simpa using q⟩
  · obtain rfl := rep_bl hx
    obtain rfl := rep_bl hy
    cases h
    exact h1 pins s σ H _ _ v u Q I rx ry ⟨rfl, by simpa using q⟩
  · obtain rfl := rep_non hx
    obtain rfl := rep_non hy
    cases h
    exact h1 pins s σ H _ _ v u Q I rx ry ⟨rfl, by simpa using q⟩
  · obtain rfl := rep_non hx
    obtain rfl := rep_int hy
    cases h
    exact h1 pins s σ H _ _ v u Q I rx ry ⟨rfl, by simpa using q⟩
  · obtain rfl := rep_int hx
    obtain rfl := rep_non hy
    cases h
    exact h1 pins s σ H _ _ v u Q I rx ry ⟨rfl, by simpa using q⟩
  · obtain rfl := rep_str hx
    obtain rfl := rep_non hy
    cases h
    exact h1 pins s σ H _ _ v u Q I rx ry ⟨rfl, by simpa using q⟩
  · obtain rfl := rep_non hx
    obtain rfl := rep_str hy
    cases h
    exact h1 pins s σ H _ _ v u Q I rx ry ⟨rfl, by simpa using q⟩
  · obtain rfl := rep_int hx
    obtain rfl := rep_str hy
    cases h
    exact h1 pins s σ H _ _ v u Q I rx ry ⟨rfl, by simpa using q⟩
  · obtain rfl := rep_str hx
    obtain rfl := rep_int hy
    cases h
    exact h1 pins s σ H _ _ v u Q I rx ry ⟨rfl, by simpa using q⟩
  · unfold oEqD at h
    split at h
    · rename_i p p' e1 e2
      split at h
      · rename_i hs
        cases h
        rw [Bool.and_eq_true] at hs
        exact h2 pins s σ H _ _ v u Q I rx ry ⟨_, _, deref_dp g hx e1, deref_dp g hy e2, hs.1, hs.2, q⟩
      · cases h
    · cases h
theorem op_oEq (hu : X.A.units + 64 < cLine) : OpR X (compareOp .Eq) (r2of X oEq) := by
  intro pins s σ H x y v u Q I rx ry h
  obtain ⟨w, m, d, e, r, g, hx, hy, h, q⟩ := h
  obtain ⟨b, hb, rfl⟩ := toBl_some h
  exact eq_run (neg := false) op_eq (op_eqD hu) I rx ry g hx hy hb (q w _ H g Ext.refl (by simp only [Rep]; rfl))
theorem op_oNe (hu : X.A.units + 64 < cLine) : OpR X (compareOp .NotEq) (r2of X oNe) := by
  intro pins s σ H x y v u Q I rx ry h
  obtain ⟨w, m, d, e, r, g, hx, hy, h, q⟩ := h
  obtain ⟨b, hb, rfl⟩ := toNbl_some h
  exact eq_run (neg := true) op_ne (op_neD hu) I rx ry g hx hy hb (q w _ H g Ext.refl (by simp only [Rep]; rfl))
end

def intsOf : List D → Option (List Int)
  | [] => some []
  | .int i :: l => match intsOf l with
    | some r => some (i :: r)
    | none => none
  | _ => none
theorem intsOf_eq : ∀ {l : List D} {ns : List Int}, intsOf l = some ns → l = ns.map D.int
  | [], _, h => by simp only [intsOf] at h; cases h; rfl
  | d :: l, ns, h => by
    cases d with
    | int i =>
      simp only [intsOf] at h
      split at h
      · rename_i r hr
        cases h
        rw [List.map_cons, ← intsOf_eq hr]
      · cases h
    | _ => simp only [intsOf] at h; cases h
theorem intsOf_map : ∀ ns : List Int, intsOf (ns.map D.int) = some ns
  | [] => rfl
  | n :: r => by simp only [List.map_cons, intsOf, intsOf_map r]
def leD (ns ms : List Int) : Bool := Ob.lexAt (fun j => decide (ns.getD j 0 = ms.getD j 0)) (fun j => decide (ns.getD j 0 ≤ ms.getD j 0)) (decide (ns.length ≤ ms.length)) 0 (min ns.length ms.length)
def oLt : VK2 := fun a b _ => match a, b with
  | .int i, .int j => some (.bl (decide (i < j)))
  | .str i, .str j => some (.bl (decide (i.cps.toList < j.cps.toList)))
  | .tup l, .tup r => match intsOf l, intsOf r with
    | some ns, some ms => some (.bl (HT.lexLt ns ms))
    | _, _ => none
  | _, _ => none
def oLe : VK2 := fun a b _ => match a, b with
  | .int i, .int j => some (.bl (decide (i ≤ j)))
  | .str i, .str j => some (.bl (!decide (j.cps.toList < i.cps.toList)))
  | _, _ => none
def oGt : VK2 := fun a b _ => match a, b with
  | .int i, .int j => some (.bl (decide (j < i)))
  | .str i, .str j => some (.bl (decide (j.cps.toList < i.cps.toList)))
  | _, _ => none
def oGe : VK2 := fun a b _ => match a, b with
  | .int i, .int j => some (.bl (decide (j ≤ i)))
  | _, _ => none
section
variable {X : Cx}
theorem op_oLt (hu : X.A.units < cLine) : OpR X (compareOp .Lt) (r2of X oLt) := by
  intro pins s σ H x y v u Q I rx ry h
  obtain ⟨w, m, d, e, r, g, hx, hy, h, q⟩ := h
  unfold oLt at h
  split at h
  · obtain rfl := rep_int hx
    obtain rfl := rep_int hy
    cases h
    exact op_lt pins s σ H _ _ v u Q I rx ry ⟨_, _, rfl, rfl, q w _ H g Ext.refl (by simp only [Rep])⟩
  · obtain rfl := rep_str hx
    obtain rfl := rep_str hy
    cases h
    exact op_lt_str pins s σ H _ _ v u Q I rx ry ⟨_, _, rfl, rfl, q w _ H g Ext.refl (by simp only [Rep])⟩
  · split at h
    · rename_i ns ms h1 h2
      cases h
      obtain ⟨a, xs, rfl, ha, hl⟩ := asT_rep hx rfl
      obtain ⟨b, ys, rfl, hb, hr⟩ := asT_rep hy rfl
      rw [intsOf_eq h1] at hl
      rw [intsOf_eq h2] at hr
      rw [hl.ints] at ha
      rw [hr.ints] at hb
      exact op_ltT hu pins s σ H _ _ v u Q I rx ry ⟨_, _, _, _, rfl, rfl, ha, hb, q w _ H g Ext.refl (by simp only [Rep])⟩
    · cases h
  · cases h
theorem op_oLe : OpR X (compareOp .LtE) (r2of X oLe) := by
  intro pins s σ H x y v u Q I rx ry h
  obtain ⟨w, m, d, e, r, g, hx, hy, h, q⟩ := h
  unfold oLe at h
  split at h
  · obtain rfl := rep_int hx
    obtain rfl := rep_int hy
    cases h
    exact op_le pins s σ H _ _ v u Q I rx ry ⟨_, _, rfl, rfl, q w _ H g Ext.refl (by simp only [Rep])⟩
  · obtain rfl := rep_str hx
    obtain rfl := rep_str hy
    cases h
    exact op_le_str pins s σ H _ _ v u Q I rx ry ⟨_, _, rfl, rfl, q w _ H g Ext.refl (by simp only [Rep])⟩
  · cases h
theorem op_oGt : OpR X (compareOp .Gt) (r2of X oGt) := by
  intro pins s σ H x y v u Q I rx ry h
  obtain ⟨w, m, d, e, r, g, hx, hy, h, q⟩ := h
  unfold oGt at h
  split at h
  · obtain rfl := rep_int hx
    obtain rfl := rep_int hy
    cases h
    exact op_gt pins s σ H _ _ v u Q I rx ry ⟨_, _, rfl, rfl, q w _ H g Ext.refl (by simp only [Rep])⟩
  · obtain rfl := rep_str hx
    obtain rfl := rep_str hy
    cases h
    exact op_gt_str pins s σ H _ _ v u Q I rx ry ⟨_, _, rfl, rfl, q w _ H g Ext.refl (by simp only [Rep])⟩
  · cases h
theorem op_oGe : OpR X (compareOp .GtE) (r2of X oGe) := by
  intro pins s σ H x y v u Q I rx ry h
  obtain ⟨w, m, d, e, r, g, hx, hy, h, q⟩ := h
  unfold oGe at h
  split at h
  · obtain rfl := rep_int hx
    obtain rfl := rep_int hy
    cases h
    exact op_ge pins s σ H _ _ v u Q I rx ry ⟨_, _, rfl, rfl, q w _ H g Ext.refl (by simp only [Rep])⟩
  · cases h
end
/-! is -/
def oIs : VK2 := fun a b _ => match a, b with
  | .bl i, .bl j => some (.bl (decide (i = j)))
  | .non, .non => some (.bl true)
  | .bl _, .non => some (.bl false)
  | .int _, .non => some (.bl false)
  | .str _, .non => some (.bl false)
  | .tup _, .non => some (.bl false)
  | .lst _, .non => some (.bl false)
  | .ro _, .non => some (.bl false)
  | .loc _, .non => some (.bl false)
  | _, _ => none
def notD (r : Option D) : Option D := match r with
  | some (.bl b) => some (.bl (!b))
  | _ => none
def oIsNot : VK2 := fun a b m => notD (oIs a b m)
theorem notD_some {r : Option D} {d : D} (h : notD r = some d) : ∃ b, r = some (.bl b) ∧ d = .bl (!b) := by
  unfold notD at h
  split at h
  · cases h; exact ⟨_, rfl, rfl⟩
  · cases h
section
variable {X : Cx}
theorem rep_ref {K : PySem.W.Frag} {w : Wd} {H : Hp} {d : D} {x : V} (r : Rep K w H d x) (h : (match d with | .tup _ => true | .lst _ => true | .ro _ => true | .loc _ => true | _ => false) = true) : ∃ a, x = .ref a := by
  cases d with
  | tup l => simp only [Rep] at r; obtain ⟨a, _, r, _⟩ := r; exact ⟨a, r⟩
  | lst l => simp only [Rep] at r; obtain ⟨a, _, r, _⟩ := r; exact ⟨a, r⟩
  | ro l => simp only [Rep] at r; obtain ⟨a, _, r, _⟩ := r; exact ⟨a, r⟩
  | loc l => simp only [Rep] at r; obtain ⟨a, r, _⟩ := r; exact ⟨a, r⟩
  | _ => cases h
theorem is_run {neg : Bool} {op : CmpOp} (h1 : OpR X (compareOp op) (fun x y H Q => ∃ a b, x = .bl a ∧ y = .bl b ∧ Q (.bl (if neg then !decide (a = b) else decide (a = b))) H))
    (h2 : OpR X (compareOp op) (fun x y H Q => y = .non ∧ Q (.bl (if neg then !decide (x = .non) else decide (x = .non))) H))
    {pins : List (Addr × Obj)} {s : Shared} {σ : L2.St} {H : Hp} {x y : V} {v u : Value} {Q : VK} {w : Wd} {m : Mem} {d e : D} {b : Bool} (I : Inv X pins σ H s) (rx : RelV x v) (ry : RelV y u)
    (g : Good X.K w H m) (hx : Rep X.K w H d x) (hy : Rep X.K w H e y) (h : oIs d e m = some (.bl b)) (q : Q (.bl (if neg then !b else b)) H) :
    wpAny (model X.prog X.w) X.A (compareOp op v u) (EP X pins σ Q) X.xe s := by
  unfold oIs at h
  split at h
  · obtain rfl := rep_bl hx
    obtain rfl := rep_bl hy
    cases h
    exact h1 pins s σ H _ _ v u Q I rx ry ⟨_, _, rfl, rfl, q⟩
  · obtain rfl := rep_non hx
    obtain rfl := rep_non hy
    cases h
    exact h2 pins s σ H _ _ v u Q I rx ry ⟨rfl, by simpa using q⟩
  · obtain rfl := rep_bl hx
    obtain rfl := rep_non hy
    cases h
    exact h2 pins s σ H _ _ v u Q I rx ry ⟨rfl, by simpa using q⟩
  · obtain rfl := rep_int hx
    obtain rfl := rep_non hy
    cases h
    exact h2 pins s σ H _ _ v u Q I rx ry ⟨rfl, by simpa using q⟩
  · obtain rfl := rep_str hx
    obtain rfl := rep_non hy
    cases h
    exact h2 pins s σ H _ _ v u Q I rx ry ⟨rfl, by simpa using q⟩
  all_goals first
    | (obtain ⟨a, rfl⟩ := rep_ref hx rfl
       obtain rfl := rep_non hy
       cases h
       exact h2 pins s σ H _ _ v u Q I rx ry ⟨rfl, by simpa using q⟩)
    | cases h
theorem oIs_bl {d e r : D} {m : Mem} (h : oIs d e m = some r) : ∃ b, r = .bl b := by
  unfold oIs at h
  split at h <;> cases h <;> exact ⟨_, rfl⟩
theorem op_oIs : OpR X (compareOp .Is) (r2of X oIs) := by
  intro pins s σ H x y v u Q I rx ry h
  obtain ⟨w, m, d, e, r, g, hx, hy, h, q⟩ := h
  obtain ⟨b, rfl⟩ := oIs_bl h
  exact is_run (neg := false) op_is_bl op_isN I rx ry g hx hy h (q w _ H g Ext.refl (by simp only [Rep]; rfl))
theorem op_oIsNot : OpR X (compareOp .IsNot) (r2of X oIsNot) := by
  intro pins s σ H x y v u Q I rx ry h
  obtain ⟨w, m, d, e, r, g, hx, hy, h, q⟩ := h
  obtain ⟨b, h2, rfl⟩ := notD_some h
  exact is_run (neg := true) op_isnot_bl op_notN I rx ry g hx hy h2 (q w _ H g Ext.refl (by simp only [Rep]; rfl))
end

/-! in -/
def inL (p : PyData) (ps : List PyData) : Option Bool := if PyData.canLayAll0 ps && (p.canLay0 && decide (PyData.depth p ≤ 64)) then some (ps.any fun y => PyData.eqv y p) else none
def oInB (a b : D) (m : Mem) : Option Bool := match a, b with
  | .str x, .str z => if x.cps.size = 1 then some (decide (x.cps.getD 0 0 ∈ z.cps.toList)) else some (!(Builtin.Str.occurrences z x 0 z.length 1).isEmpty)
  | a, .tup l => match toPy (deref m a), toPyL l with
    | some p, some ps => inL p ps
    | _, _ => none
  | a, b => match toPy (deref m a), toPy (deref m b) with
    | some p, some (.list ps) => inL p ps
    | _, _ => none
def oIn : VK2 := fun a b m => toBl (oInB a b m)
def oNotIn : VK2 := fun a b m => toNbl (oInB a b m)
section
variable {X : Cx}
theorem in_run {neg : Bool} {op : CmpOp} (hu : X.A.units + 65 < cLine)
    (h1 : OpR X (compareOp op) (fun x y H Q => ∃ (c : Nat) (z : Str), x = .str ⟨#[c]⟩ ∧ y = .str z ∧ Q (.bl (if neg then !decide (c ∈ z.cps.toList) else decide (c ∈ z.cps.toList))) H))
    (h2 : OpR X (compareOp op) (fun x y H Q => ∃ i j, x = .str i ∧ y = .str j ∧ Q (.bl (if neg then !(!(Builtin.Str.occurrences j i 0 j.length 1).isEmpty) else !(Builtin.Str.occurrences j i 0 j.length 1).isEmpty)) H))
    (h3 : ∀ {prog : Program} {w : World} {A : Around} {E : Value → Shared → Prop} {s : Shared} {c x : Value} {xs : List PyData} {d : PyData} {as bs : List Addr} {Q : Value → Shared → Prop} (rc : Reads s.heap c (.list xs) as) (rx : Reads s.heap x d bs) (hxs : PyData.canLayAll0 xs = true) (hd : d.canLay0 = true)
      (hu : A.units + 1 + min (PyData.depthAll xs) d.depth < cLine) (h : Q (.bool (if neg then !(xs.any fun y => PyData.eqv y d) else (xs.any fun y => PyData.eqv y d))) s), wpAny (model prog w) A (compareOp op x c) Q E s)
    (h4 : ∀ {prog : Program} {w : World} {A : Around} {E : Value → Shared → Prop} {s : Shared} {c x : Value} {xs : List PyData} {d : PyData} {as bs : List Addr} {Q : Value → Shared → Prop} (rc : Reads s.heap c (.tuple xs) as) (rx : Reads s.heap x d bs) (hxs : PyData.canLayAll0 xs = true) (hd : d.canLay0 = true)
      (hu : A.units + 1 + min (PyData.depthAll xs) d.depth < cLine) (h : Q (.bool (if neg then !(xs.any fun y => PyData.eqv y d) else (xs.any fun y => PyData.eqv y d))) s), wpAny (model prog w) A (compareOp op x c) Q E s)
    {pins : List (Addr × Obj)} {s : Shared} {σ : L2.St} {H : Hp} {x y : V} {v u : Value} {Q : VK} {w : Wd} {m : Mem} {d e : D} {b : Bool} (I : Inv X pins σ H s) (rx : RelV x v) (ry : RelV y u)
    (g : Good X.K w H m) (hx : Rep X.K w H d x) (hy : Rep X.K w H e y) (h : oInB d e m = some b) (q : Q (.bl (if neg then !b else b)) H) :
    wpAny (model X.prog X.w) X.A (compareOp op v u) (EP X pins σ Q) X.xe s := by
  have dep : ∀ {p : PyData} {ps : List PyData}, inL p ps = some b → PyData.canLayAll0 ps = true ∧ p.canLay0 = true ∧ X.A.units + 1 + min (PyData.depthAll ps) p.depth < cLine ∧ b = (ps.any fun y => PyData.eqv y p) := fun {p ps} h => by
    unfold inL at h
    split at h
    · rename_i hs
      cases h
      rw [Bool.and_eq_true, Bool.and_eq_true] at hs
      have h1 := of_decide_eq_true hs.2.2
      have h2 : min (PyData.depthAll ps) p.depth ≤ p.depth := Nat.min_le_right _ _
      exact ⟨hs.1, hs.2.1, by omega, rfl⟩
    · cases h
  unfold oInB at h
  split at h
  · obtain rfl := rep_str hx
    obtain rfl := rep_str hy
    split at h
    · rename_i i z hs
      cases h
      refine h1 pins s σ H _ _ v u Q I rx ry ⟨i.cps.getD 0 0, z, ?_, rfl, q⟩
      obtain ⟨⟨l⟩⟩ := i
      cases l with
      | nil => cases hs
      | cons a l =>
        cases l with
        | nil => rfl
        | cons _ _ => simp at hs
    · cases h
      exact h2 pins s σ H _ _ v u Q I rx ry ⟨_, _, rfl, rfl, q⟩
  · split at h
    · rename_i l _ p ps e1 e2
      obtain ⟨c1, c2, c3, c4⟩ := dep h
      have dx := deref_dp g hx e1
      obtain ⟨as, rd⟩ := Dp.reads I p x v dx rx
      have dy : Dp X.K H y (.tuple ps) := toPy_dp hy (by simp only [toPy, e2])
      obtain ⟨bs, rd2⟩ := Dp.reads I _ y u dy ry
      exact h4 rd2 rd c1 c2 c3 ⟨.bl _, H, I, rfl, by rw [← c4]; exact q⟩
    · cases h
  · split at h
    · rename_i p ps e1 e2
      obtain ⟨c1, c2, c3, c4⟩ := dep h
      have dx := deref_dp g hx e1
      obtain ⟨as, rd⟩ := Dp.reads I p x v dx rx
      have dy : Dp X.K H y (.list ps) := deref_dp g hy e2
      obtain ⟨bs, rd2⟩ := Dp.reads I _ y u dy ry
      exact h3 rd2 rd c1 c2 c3 ⟨.bl _, H, I, rfl, by rw [← c4]; exact q⟩
    · cases h
theorem op_oIn (hu : X.A.units + 65 < cLine) : OpR X (compareOp .In) (r2of X oIn) := by
  intro pins s σ H x y v u Q I rx ry h
  obtain ⟨w, m, d, e, r, g, hx, hy, h, q⟩ := h
  obtain ⟨b, hb, rfl⟩ := toBl_some h
  exact in_run (neg := false) hu op_in_sign op_in_str (fun a b c d e f => SeqAt.in_list_reads a b c d e f) (fun a b c d e f => SeqAt.in_tuple_reads a b c d e f) I rx ry g hx hy hb (q w _ H g Ext.refl (by simp only [Rep]; rfl))
theorem op_oNotIn (hu : X.A.units + 65 < cLine) : OpR X (compareOp .NotIn) (r2of X oNotIn) := by
  intro pins s σ H x y v u Q I rx ry h
  obtain ⟨w, m, d, e, r, g, hx, hy, h, q⟩ := h
  obtain ⟨b, hb, rfl⟩ := toNbl_some h
  exact in_run (neg := true) hu op_notIn_sign op_notin_str (fun a b c d e f => SeqAt.notIn_list_reads a b c d e f) (fun a b c d e f => SeqAt.notIn_tuple_reads a b c d e f) I rx ry g hx hy hb (q w _ H g Ext.refl (by simp only [Rep]; rfl))
end
end Z

set_option maxRecDepth 100000
set_option maxHeartbeats 4000000
set_option autoImplicit false
namespace Z
open PySem PySem.Spec PyProof.Rows L2

/-! ### indices, slices -/
def oIx : VK2 := fun a b m => match a, b with
  | .tup l, .int i => atI l i
  | .str z, .int i => if z.length ≤ SL then (match atI z.cps.toList i with
    | some c => some (.str ⟨#[c]⟩)
    | none => none) else none
  | a, .int i => match asL m a with
    | some l => atI l i
    | none => none
  | _, _ => none
section
variable {X : Cx} {W : WX} {a b c : Expr} {p q : PEF} {pos p2 : Pos}
theorem atI_rep {K : PySem.W.Frag} {w : Wd} {H : Hp} {l : List D} {xs : List V} {i : Int} {d : D} (r : RepL K w H l xs) (h : atI l i = some d) : ∃ v, atI xs i = some v ∧ Rep K w H d v := by
  unfold atI at h ⊢
  rw [r.len]
  cases e : ixN l.length i with
  | none => rw [e] at h; cases h
  | some j =>
    rw [e] at h
    exact r.get h
theorem ix_oIx : IxR X (r2of X oIx) := by
  intro value slice pins s σ H x y v u Q I rx ry h hs
  obtain ⟨w, m, d, e, r, g, hx, hy, h, q⟩ := h
  unfold oIx at h
  split at h
  · obtain ⟨a, xs, rfl, ha, hl⟩ := asT_rep hx rfl
    obtain rfl := rep_int hy
    obtain ⟨z, h1, h2⟩ := atI_rep hl h
    exact ix_tup value slice pins s σ H _ _ v u Q I rx ry ⟨a, xs, _, z, rfl, rfl, ha, h1, q w _ H g Ext.refl h2⟩ hs
  · obtain rfl := rep_str hx
    obtain rfl := rep_int hy
    split at h
    · rename_i hz
      split at h
      · rename_i c hc
        cases h
        exact ix_str value slice pins s σ H _ _ v u Q I rx ry ⟨_, _, c, rfl, rfl, by rw [← SL_eq]; exact hz, hc, q w _ H g Ext.refl (by simp only [Rep])⟩ hs
      · cases h
    · cases h
  · obtain rfl := rep_int hy
    split at h
    · rename_i l hl
      obtain ⟨a, xs, rfl, ha, hr⟩ := asL_rep g hx hl
      obtain ⟨z, h1, h2⟩ := atI_rep hr h
      exact ix_list value slice pins s σ H _ _ v u Q I rx ry ⟨a, xs, _, z, rfl, rfl, ha, h1, q w _ H g Ext.refl h2⟩ hs
    · cases h
  · cases h
theorem me_ix (ha : ME X W a p) (hb : ME X W b q) (hs : PlainIx b := by exact fun _ _ => rfl) : ME X W (.Subscript a b pos) (pBin oIx p q) :=
  PE.imp (pe_ix ix_oIx ha hb hs) fun _ _ _ h => tOp_of h

/-! parts of slices -/
abbrev POF := Ev → Mem → Option (Out (Option Int))
def PostO (X : Cx) (W : WX) (σ : L2.St) (w : Wd) (H : Hp) (Q : Option Int → Hp → Prop) : Out (Option Int) → Prop
  | .ok b m => ∀ w' H', Good X.K w' H' m → Ext X.K w H w' H' → Q b H'
  | .exc c m => ExW X W w H σ c m
def tO (X : Cx) (W : WX) (p : POF) : TO := fun σ H Q => ∃ w m e r, Good X.K w H m ∧ EvR X.K w H e σ ∧ p e m = some r ∧ PostO X W σ w H Q r
abbrev MO (X : Cx) (W : WX) (e : Option Expr) (p : POF) : Prop := PO X e (tO X W p)
theorem PO.imp {e : Option Expr} {t t' : TO} (h : PO X e t) (i : ∀ σ H Q, t' σ H Q → t σ H Q) : PO X e t' := by
  obtain ⟨h⟩ := h
  exact ⟨fun pins s σ H Q I q => h pins s σ H Q I (i _ _ _ q)⟩
def pNoPart : POF := fun _ m => some (.ok none m)
def pPart (p : PEF) : POF := fun e m => bnd (p e m) fun d m1 => match d with
  | .int i => some (.ok (some i) m1)
  | _ => none
theorem mo_none : MO X W none pNoPart := PO.imp po_none fun σ H Q ⟨w, m, e, r, g, ev, h, q⟩ => by
  cases h
  exact q w H g Ext.refl
theorem mo_some (h : ME X W a p) : MO X W (some a) (pPart p) := PO.imp (po_some h) fun σ H Q ⟨w, m, e, r, g, ev, h, q⟩ => by
  show tM X W p σ H fun x H1 => ∃ i, x = .int i ∧ Q (some i) H1
  unfold pPart at h
  cases hp : p e m with
  | none => rw [hp] at h; cases h
  | some o =>
    rw [hp] at h
    cases o with
    | ok d m1 =>
      refine ⟨w, m, e, _, g, ev, hp, fun w1 v H1 g1 x1 r1 => ?_⟩
      simp only [bnd] at h
      split at h
      · cases h
        obtain rfl := rep_int r1
        exact ⟨_, rfl, q w1 H1 g1 x1⟩
      · cases h
    | exc c m1 =>
      cases h
      exact ⟨w, m, e, _, g, ev, hp, q⟩
def cutD (l : List D) (lo hi : Option Int) : List D := (l.drop (HT.sIx l.length 0 lo)).take (HT.sIx l.length l.length hi - HT.sIx l.length 0 lo)
def oSl (a : D) (lo hi : Option Int) (m : Mem) : Option D := match a with
  | .tup l => some (.tup (cutD l lo hi))
  | .str z => if z.length ≤ SL then some (.str (cutS z lo hi)) else none
  | a => match asL m a with
    | some l => some (.lst (cutD l lo hi))
    | none => none
theorem cut_rep {K : PySem.W.Frag} {w : Wd} {H : Hp} {l : List D} {xs : List V} (r : RepL K w H l xs) (lo hi : Option Int) : RepL K w H (cutD l lo hi) (cutV xs lo hi) := by
  unfold cutD cutV
  rw [r.len]
  exact (r.drop _).take _
theorem cutD_whole {l : List D} {lo hi : Option Int} (h : HT.sIx l.length 0 lo = 0 ∧ HT.sIx l.length l.length hi = l.length) : cutD l lo hi = l := by
  unfold cutD
  rw [h.1, h.2, List.drop_zero, Nat.sub_zero, List.take_length]
def pSl (p : PEF) (pl ph : POF) : PEF := fun e m => bnd (p e m) fun d m1 => bnd (pl e m1) fun lo m2 => bnd (ph e m2) fun hi m3 => lift1 (oSl d lo hi m3) m3
def rSlD (X : Cx) : V → Option Int → Option Int → Hp → VK → Prop := fun x lo hi H Q => ∃ w m d r, Good X.K w H m ∧ Rep X.K w H d x ∧ oSl d lo hi m = some r ∧ ∀ w' v H', Good X.K w' H' m → Ext X.K w H w' H' → Rep X.K w' H' r v → Q v H'
theorem sl_oSl : SlR X (rSlD X) := by
  intro pins s σ H x v vl vu lo hi sl Q I rx hs pl pu h
  obtain ⟨w, m, d, r, g, hx, h, q⟩ := h
  unfold oSl at h
  split at h
  · cases h
    obtain ⟨a, xs, rfl, ha, hl⟩ := asT_rep hx rfl
    refine sl_tupA pins s σ H _ v vl vu lo hi sl Q I rx hs pl pu ⟨a, xs, rfl, ha, fun e => ?_, fun _ p hp => ?_⟩
    · rw [hl.len] at e
      rw [cutD_whole e] at q
      exact q w _ H g Ext.refl hx
    · exact q w _ _ (g.new hp) (Ext.new g hp) (new_tup g hp (cut_rep hl lo hi))
  · split at h
    · rename_i hz
      cases h
      obtain rfl := rep_str hx
      exact sl_str pins s σ H _ v vl vu lo hi sl Q I rx hs pl pu ⟨_, rfl, by rw [← SL_eq]; exact hz, q w _ H g Ext.refl (by simp only [Rep])⟩
    · cases h
  · split at h
    · rename_i l hl
      cases h
      obtain ⟨a, xs, rfl, ha, hr⟩ := asL_rep g hx hl
      exact sl_list pins s σ H _ v vl vu lo hi sl Q I rx hs pl pu ⟨a, xs, rfl, ha, fun p hp => q (w.fzn p) _ _ (g.newF hp) ((Ext.new g hp).trans Ext.fzn) (new_lst g hp (cut_rep hr lo hi))⟩
    · cases h
theorem me_sl {lo hi : Option Expr} {pl ph : POF} (ha : ME X W a p) (hl : MO X W lo pl) (hh : MO X W hi ph) : ME X W (.Subscript a (.Slice lo hi none p2) pos) (pSl p pl ph) := by
  refine PE.imp (pe_slice sl_oSl ha hl hh) fun σ H Q ⟨w, m, e, r, g, ev, h, q⟩ => ?_
  refine tM_bnd g ev h q fun d1 m1 w1 v1 H1 h1 g1 x1 r1 ev1 q1 => ?_
  cases hp : pl e m1 with
  | none => rw [hp] at h1; cases h1
  | some o =>
    rw [hp] at h1
    cases o with
    | exc c m2 => cases h1; exact ⟨w1, m1, e, _, g1, ev1, hp, q1⟩
    | ok lo' m2 =>
      refine ⟨w1, m1, e, _, g1, ev1, hp, fun w2 H2 g2 x2 => ?_⟩
      have h1 : bnd (ph e m2) (fun hi m3 => lift1 (oSl d1 lo' hi m3) m3) = some r := h1
      cases hp2 : ph e m2 with
      | none => rw [hp2] at h1; cases h1
      | some o2 =>
        rw [hp2] at h1
        cases o2 with
        | exc c m3 => cases h1; exact ⟨w2, m2, e, _, g2, ev1.mono x2, hp2, PostE.ext (r := .exc c m3) q1 x2⟩
        | ok hi' m3 =>
          refine ⟨w2, m2, e, _, g2, ev1.mono x2, hp2, fun w3 H3 g3 x3 => ?_⟩
          obtain ⟨d, hd, rfl⟩ := lift1_some h1
          exact ⟨w3, m3, d1, d, g3, (r1.mono x2).mono x3, hd, PostE.ext (PostE.ext q1 x2) x3⟩
end

/-! ### xs[::-1] -/
def oRev (a : D) (m : Mem) : Option D := match a with
  | .tup l => some (.tup l.reverse)
  | a => match asL m a with
    | some l => some (.lst l.reverse)
    | none => none
def pUn (o : D → Mem → Option D) (p : PEF) : PEF := fun e m => bnd (p e m) fun d m1 => lift1 (o d m1) m1
theorem rev_pick (l : List Value) (items : Array Value) (hi : items.toList = l) : ((List.range items.size).filterMap fun (k : Nat) => items[(((items.size : Int) - 1) + (k : Int) * (-1)).toNat]?).toArray = l.reverse.toArray := by
  congr 1
  have hs : items.size = l.length := by rw [← hi, Array.length_toList]
  have e : ∀ k ∈ List.range items.size, (fun (k : Nat) => items[(((items.size : Int) - 1) + (k : Int) * (-1)).toNat]?) k = some (l.reverse.getD k .none) := fun k hk => by
    have hk : k < items.size := List.mem_range.mp hk
    have e1 : (((items.size : Int) - 1) + (k : Int) * (-1)).toNat = items.size - 1 - k := by omega
    show items[(((items.size : Int) - 1) + (k : Int) * (-1)).toNat]? = _
    rw [e1, ← Array.getElem?_toList, hi, hs]
    rw [List.getD_eq_getElem?_getD, List.getElem?_reverse (by omega)]
    rw [List.getElem?_eq_getElem (by omega)]
    rfl
  have fm : ∀ {f : Nat → Option Value} {g : Nat → Value} (ks : List Nat), (∀ k ∈ ks, f k = some (g k)) → ks.filterMap f = ks.map g := fun {f g} ks => by
    induction ks with
    | nil => intro _; rfl
    | cons k ks ih =>
      intro h
      rw [List.filterMap_cons, h k List.mem_cons_self, List.map_cons, ih fun j hj => h j (List.mem_cons_of_mem _ hj)]
  rw [fm _ e]
  apply List.ext_getElem
  · simp [hs]
  · intro i h1 h2
    rw [List.getElem_map, List.getElem_range, List.getD_eq_getElem?_getD, List.getElem?_eq_getElem h2]
    rfl
theorem tupRev_get {A : Around} {E : Value → Shared → Prop} {s : Shared} {t sl : Addr} {items : Array Value} {vl vu vs : Value} {Q : Value → Shared → Prop} {prog : Program} {w : World} (ht : IsTup s.heap t items) (hs : s.heap.IsSliceOf sl vl vu vs) (pl : IsPart vl none) (pu : IsPart vu none) (ps : IsPart vs (some (-1)))
    (h : Q (.ref s.heap.objs.size) { s with heap := s.heap.push { cls := .type "tuple", data := .seq items.toList.reverse.toArray } })
    (hsz : items.size ≤ sizeLine) : wpAny (model prog w) A (getItem (.ref t) (.ref sl)) Q E s := by
  have htake : sizeOk (.seq items.toList.reverse.toArray) := by
    show items.toList.reverse.toArray.size ≤ sizeLine
    rw [List.size_toArray, List.length_reverse, Array.length_toList]
    exact hsz
  obtain ⟨os, hos, hcs, hds⟩ := id hs
  have hTs : s.TypeIs (.ref sl) "slice" := ⟨os, hos, hcs⟩
  unfold getItem
  try with_reducible refine wpAny_holding ?_
  first | refine wpAny_bind (wpAny_pure ?_) | skip
  refine wpAny_bind (wpAny_sequenceKey ht.typeIs (by decide) ?_)
  refine wpAny_bind (wpAny_callSpecial?_slot (name := Str.ofString "__getitem__") ht.typeIs PyProof.Rows.slot_tuple_getitem
    (wpAny_call_entry PyProof.Rows.slot_tuple_getitem ht.typeIs entry_tuple_getitem ?_ (args_tuple_getitem _ _)))
  show wpAny _ _ (Builtin.Tuple.tupleItemsOf (.ref t) >>= _) _ _ s
  refine wpAny_bind (tupleItemsOf_ ht ?_)
  refine wpAny_bind (wpAny_typeOf hTs ?_)
  rw [if_pos (by decide)]
  have adj : Builtin.Slice.sliceAdjust none none (-1) (items.size : Int) = ((items.size : Int) - 1, -1) := rfl
  have pcs : Builtin.Slice.slicePlaces ((items.size : Int) - 1) (-1) (-1) = items.size := by
    unfold Builtin.Slice.slicePlaces
    rw [if_neg (by omega)]
    by_cases h0 : (items.size : Int) - 1 > -1
    · rw [if_pos h0]
      have : ((items.size : Int) - 1 - -1 - 1) / (- -1) + 1 = items.size := by
        rw [Int.neg_neg, Int.ediv_one]; omega
      rw [this]; rfl
    · rw [if_neg h0]
      have : items.size = 0 := by omega
      rw [this]; rfl
  have sa : ∀ {A : Around} {E : Value → Shared → Prop} {Q : Int × Int × Nat → Shared → Prop}, Q ((items.size : Int) - 1, -1, items.size) s → wpAny (model prog w) A (Builtin.Slice.sliceApplied (.ref sl) (pure (items.size : Int))) Q E s := fun {A E Q} hq => by
    unfold Builtin.Slice.sliceApplied Builtin.Slice.sliceFields
    refine wpAny_bind (wpAny_bind (wpAny_field hos hds (x := vl) rfl (wpAny_bind (wpAny_field hos hds (x := vu) rfl (wpAny_bind (wpAny_field hos hds (x := vs) rfl (wpAny_pure ?_)))))))
    refine wpAny_bind (HT.slicePart_ ps ?_)
    show wpAny _ _ (if ((-1 : Int) == 0) = true then _ else _) _ _ s
    rw [if_neg (by decide)]
    refine wpAny_bind (HT.slicePart_ pl (wpAny_bind (HT.slicePart_ pu (wpAny_bind (wpAny_pure ?_)))))
    show wpAny _ _ (match Builtin.Slice.sliceAdjust none none (-1) (items.size : Int) with | (lo, hi) => pure (lo, (-1 : Int), Builtin.Slice.slicePlaces lo hi (-1))) _ _ s
    rw [adj]
    show wpAny _ _ (pure ((items.size : Int) - 1, (-1 : Int), Builtin.Slice.slicePlaces ((items.size : Int) - 1) (-1) (-1))) _ _ s
    rw [pcs]
    exact wpAny_pure hq
  refine wpAny_bind (sa ?_)
  have hno : ¬ ((((items.size : Int) - 1) == 0 && (-1 : Int) == 1 && items.size == items.size) = true) := by
    intro q
    rw [Bool.and_eq_true, Bool.and_eq_true] at q
    exact absurd q.1.2 (by decide)
  show wpAny _ _ (if (((items.size : Int) - 1) == 0 && (-1 : Int) == 1 && items.size == items.size) = true then _ else _) _ _ s
  rw [if_neg hno, rev_pick items.toList items rfl]
  first
    | exact wpAny_bind (m := Builtin.Tuple.tupleExact _) (wpAny_newObj_type (wpAny_pure ⟨_, rfl, wpAny_pure h⟩) htake)
    | exact wpAny_bind (m := Builtin.Tuple.tupleExact _) (wpAny_newObj_type (wpAny_bind (wpAny_pure (wpAny_pure ⟨_, rfl, wpAny_pure h⟩))) htake)
    | exact wpAny_bind (wpAny_bind (m := Builtin.Tuple.tupleExact _) (wpAny_newObj_type (wpAny_pure (wpAny_pure ⟨_, rfl, wpAny_pure h⟩)) htake))
    | exact wpAny_bind (wpAny_bind (m := Builtin.Tuple.tupleExact _) (wpAny_newObj_type (wpAny_pure ⟨_, rfl, wpAny_pure h⟩) htake))
section
variable {X : Cx} {W : WX} {e : Expr} {p : PEF}
theorem me_rev {k : Nat} {p1 p2 p3 pos : Pos} (he : ME X W e p) : ME X W (.Subscript e (.Slice none none (some (.UnaryOp .USub (.Constant (.int 1) k p1) p2)) p3) pos) (pUn oRev p) := by
  refine ⟨fun pins s σ H Q I ⟨w, m, ev, r, g, er, h, q⟩ => ?_⟩
  have hh : tM X W p σ H (fun x H1 => ∃ w1 m1 d1 d, Good X.K w1 H1 m1 ∧ Rep X.K w1 H1 d1 x ∧ oRev d1 m1 = some d ∧ PostE X W σ w1 H1 Q (.ok d m1)) := tM_bnd g er h q fun d1 m1 w1 v1 H1 h1 g1 x1 r1 ev1 q1 => by
    obtain ⟨d, hd, rfl⟩ := lift1_some h1
    exact ⟨w1, m1, d1, d, g1, r1, hd, q1⟩
  refine Subscript_ (thn (he.run pins s σ H _ I hh) fun v s1 ⟨x, H1, I1, r1, w1, m1, d1, d, g1, rd, hd, q1⟩ => ?_)
  have hst : PO X (some (.UnaryOp .USub (.Constant (.int 1) k p1) p2)) (tPart (tUn (rU fun i => .int (-i)) (tC (.int 1)))) := po_some (pe_un un_neg pe_int)
  refine wpAny_Slice (thn (po_none.run pins s1 σ H1 (fun o H2 => o = none ∧ H2 = H1) I1 ⟨rfl, rfl⟩) fun vl s2 ⟨l, H2, I2, pl, el, e2⟩ => ?_)
  subst el e2
  refine thn (po_none.run pins s2 σ H2 (fun o H3 => o = none ∧ H3 = H2) I2 ⟨rfl, rfl⟩) fun vu s3 ⟨u, H3, I3, pu, eu, e3⟩ => ?_
  subst eu e3
  refine thn (hst.run pins s3 σ H3 (fun o H4 => o = some (-1) ∧ H4 = H3) I3 ⟨1, rfl, -1, rfl, rfl, rfl⟩) fun vs s4 ⟨o, H4, I4, ps, eo, e4⟩ => ?_
  subst eo e4
  have I5 : Inv X pins σ H4 { s4 with heap := s4.heap.push { cls := .type "slice", data := .fields #[vl, vu, vs] } } := I4.kept (t' := s4.toks) fun b ob q => Heap.get?_push_of_some _ q
  unfold oRev at hd
  split at hd
  · cases hd
    obtain ⟨a, xs, rfl, ha, hl⟩ := asT_rep rd rfl
    cases r1
    obtain ⟨its, r, ht, hz⟩ := I5.tuple ha
    have hlen := r.length
    show wpAny (model X.prog X.w) X.A (subscriptTail e (.Slice none none (some (.UnaryOp .USub (.Constant (.int 1) k p1) p2)) p3) (.ref a) (.ref s4.heap.objs.size)) (EP X pins σ Q) X.xe { s4 with heap := s4.heap.push { cls := .type "slice", data := .fields #[vl, vu, vs] } }
    refine tail_any (ops := [.ref a, .ref s4.heap.objs.size]) ht.typeIs (PyProof.Rows.slot_tuple_getitem.lookup) ?_ (by with_unfolding_all rfl)
    refine tupRev_get ht (Heap.IsSliceOf.new _ vl vu vs) pl pu ps ?_ (by rw [List.size_toArray]; omega)
    have hp := I5.hok.fresh (Nat.le_refl _)
    refine ⟨.ref _, _, I5.laid (t' := s4.toks) (o := .tup xs.reverse) (fun b ob q => Heap.get?_push_of_some _ q) (Nat.le_refl _) ?_, rfl, q1 w1 _ _ (g1.new hp) (Ext.new g1 hp) (new_tup g1 hp hl.reverse)⟩
    exact ⟨by rw [List.length_reverse]; exact hz, _, r.reverse, IsTup.new _ _⟩
  · split at hd
    · rename_i l hl
      cases hd
      obtain ⟨a, xs, rfl, hx, hr⟩ := asL_rep g1 rd hl
      cases r1
      obtain ⟨its, r, ht, hz⟩ := I5.list hx
      have hlen := r.length
      show wpAny (model X.prog X.w) X.A (subscriptTail e (.Slice none none (some (.UnaryOp .USub (.Constant (.int 1) k p1) p2)) p3) (.ref a) (.ref s4.heap.objs.size)) (EP X pins σ Q) X.xe { s4 with heap := s4.heap.push { cls := .type "slice", data := .fields #[vl, vu, vs] } }
      refine tail_any (ops := [.ref a, .ref s4.heap.objs.size]) ht.isList.typeIs (PySem.slot_list_getitem.lookup) ?_ (by with_unfolding_all rfl)
      refine wpAny_getItem_list_slice ht.isList (Heap.IsSliceOf.new _ vl vu vs) pl pu ps (by decide) ?_ (by rw [List.size_toArray]; omega)
      rw [PySem.W.krv_pick]
      have hp := I5.hok.fresh (Nat.le_refl _)
      refine ⟨.ref _, _, I5.laid (t' := s4.toks) (o := .lst xs.reverse) (fun b ob q => Heap.get?_push_of_some _ q) (Nat.le_refl _) ?_, rfl, q1 (w1.fzn _) _ _ (g1.newF hp) ((Ext.new g1 hp).trans Ext.fzn) (new_lst g1 hp hr.reverse)⟩
      exact ⟨by rw [List.length_reverse]; exact hz, _, 0, r.reverse, Heap.get?_push_size _ rfl⟩
    · cases hd
end
end Z

set_option maxRecDepth 100000
set_option maxHeartbeats 4000000
set_option autoImplicit false
namespace Z
open PySem PySem.Spec PyProof.Rows L2

/-! ### unary, truth -/
def un2of (X : Cx) (o : D → Mem → Option D) : V → Hp → VK → Prop := fun x H Q => ∃ w m d r, Good X.K w H m ∧ Rep X.K w H d x ∧ o d m = some r ∧ ∀ w' v H', Good X.K w' H' m → Ext X.K w H w' H' → Rep X.K w' H' r v → Q v H'
def oNeg (a : D) (_ : Mem) : Option D := match a with
  | .int i => some (.int (-i))
  | _ => none
def oTru (a : D) (m : Mem) : Option Bool := match a with
  | .non => some false
  | .bl b => some b
  | .int i => some (i != 0)
  | .str z => if z.length ≤ SL then some ((z.length : Int) != 0) else none
  | .tup l => some (!l.isEmpty)
  | a => match asL m a with
    | some l => some (!l.isEmpty)
    | none => none
def pNotV (p : PEF) : PEF := pUn (fun d m => toNbl (oTru d m)) p
def toOk (r : Option Bool) (m : Mem) : Option (Out Bool) := match r with
  | some b => some (.ok b m)
  | none => none
theorem toOk_some {r : Option Bool} {m : Mem} {o : Out Bool} (h : toOk r m = some o) : ∃ b, r = some b ∧ o = .ok b m := by
  cases r with
  | none => cases h
  | some d => cases h; exact ⟨d, rfl, rfl⟩
/-- a value as a test -/
def pTru (p : PEF) : PTF := fun e m => bnd (p e m) fun d m1 => toOk (oTru d m1) m1
def asB (d : D) : Option Bool := match d with
  | .bl b => some b
  | _ => none
/-- a comparison as a test -/
def pTst (p : PEF) : PTF := fun e m => bnd (p e m) fun d m1 => toOk (asB d) m1
def pAndT (p q : PTF) : PTF := fun e m => bnd (p e m) fun b m1 => if b = true then q e m1 else some (.ok false m1)
def pOrT (p q : PTF) : PTF := fun e m => bnd (p e m) fun b m1 => if b = true then some (.ok true m1) else q e m1
def pNotT (p : PTF) : PTF := fun e m => bnd (p e m) fun b m1 => some (.ok (!b) m1)
/-- .. as values -/
def pAndV (p q : PEF) : PEF := fun e m => bnd (p e m) fun d m1 => match oTru d m1 with
  | some true => q e m1
  | some false => some (.ok d m1)
  | none => none
def pOrV (p q : PEF) : PEF := fun e m => bnd (p e m) fun d m1 => match oTru d m1 with
  | some true => some (.ok d m1)
  | some false => q e m1
  | none => none
def pIf (c : PTF) (p q : PEF) : PEF := fun e m => bnd (c e m) fun b m1 => if b = true then p e m1 else q e m1
def pChain (o o' : VK2) (p q r : PEF) : PEF := fun e m => bnd (p e m) fun a m1 => bnd (q e m1) fun b m2 => match o a b m2 with
  | some (.bl true) => bnd (r e m2) fun c m3 => lift1 (o' b c m3) m3
  | some (.bl false) => some (.ok (.bl false) m2)
  | _ => none
section
variable {X : Cx} {W : WX} {a b c : Expr} {p q r' : PEF} {pt qt : PTF} {pos : Pos} {rest : List Expr}
theorem tru_rep {K : PySem.W.Frag} {w : Wd} {H : Hp} {m : Mem} {d : D} {v : V} {k : Bool} (g : Good K w H m) (r : Rep K w H d v) (h : oTru d m = some k) : TruV K v H k := by
  unfold oTru at h
  split at h
  · obtain rfl := rep_non r; cases h; rfl
  · obtain rfl := rep_bl r; cases h; rfl
  · obtain rfl := rep_int r; cases h; rfl
  · obtain rfl := rep_str r
    split at h
    · rename_i hz
      cases h
      exact ⟨by rw [← SL_eq]; exact hz, rfl⟩
    · cases h
  · cases h
    obtain ⟨a, xs, rfl, ha, hl⟩ := asT_rep r rfl
    refine .inr (.inl ⟨xs, ha, ?_⟩)
    have := hl.len
    rename_i l
    cases l <;> cases xs <;> simp_all
  · split at h
    · rename_i l hl
      cases h
      obtain ⟨a, xs, rfl, ha, hr⟩ := asL_rep g r hl
      refine .inl ⟨xs, ha, ?_⟩
      have := hr.len
      cases l <;> cases xs <;> simp_all
    · cases h
theorem un_oNeg : UnR X (unaryOp .USub) (un2of X oNeg) := by
  intro pins s σ H x v Q I rx h
  obtain ⟨w, m, d, r, g, hx, h, q⟩ := h
  unfold oNeg at h
  split at h
  · obtain rfl := rep_int hx
    cases h
    exact un_neg pins s σ H _ v Q I rx ⟨_, rfl, q w _ H g Ext.refl (by simp only [Rep])⟩
  · cases h
theorem tUn_of {o : D → Mem → Option D} {σ : L2.St} {H : Hp} {Q : VK} (h : tM X W (pUn o p) σ H Q) : tUn (un2of X o) (tM X W p) σ H Q := by
  obtain ⟨w, m, e, r, g, ev, h, qq⟩ := h
  refine tM_bnd g ev h qq fun d1 m1 w1 v1 H1 h1 g1 x1 r1 ev1 q1 => ?_
  obtain ⟨d, hd, rfl⟩ := lift1_some h1
  exact ⟨w1, m1, d1, d, g1, r1, hd, q1⟩
theorem me_neg (ha : ME X W a p) : ME X W (.UnaryOp .USub a pos) (pUn oNeg p) := PE.imp (pe_un un_oNeg ha) fun _ _ _ h => tUn_of h
theorem me_not (ha : ME X W a p) : ME X W (.UnaryOp .Not a pos) (pNotV p) := PE.imp (pe_notT ha) fun σ H Q ⟨w, m, e, r, g, ev, h, q⟩ => by
  refine tM_bnd g ev h q fun d1 m1 w1 v1 H1 h1 g1 x1 r1 ev1 q1 => ?_
  obtain ⟨d, hd, rfl⟩ := lift1_some h1
  obtain ⟨k, hk, rfl⟩ := toNbl_some hd
  exact ⟨k, tru_rep g1 r1 hk, q1.now g1 (by simp only [Rep])⟩
theorem mt_tru (ha : ME X W a p) (he : ∀ whole, isTrue a X.env whole = (do let v ← whole; standAt a.pos; holding [v] (truthy v)) := by intro _; rfl) : MT X W a (pTru p) :=
  PT.imp (pt_truth ha he) fun σ H Q ⟨w, m, e, r, g, ev, h, q⟩ => by
    refine tM_bndT g ev h q fun d1 m1 w1 v1 H1 h1 g1 x1 r1 ev1 q1 => ?_
    obtain ⟨k, hk, rfl⟩ := toOk_some h1
    exact ⟨k, tru_rep g1 r1 hk, q1 w1 H1 g1 Ext.refl⟩
theorem mt_cmp {op : CmpOp} {o : VK2} (ho : OpR X (compareOp op) (r2of X o)) (ha : ME X W a p) (hb : ME X W b q) (hm : behindInMarks op b = false) : MT X W (.Compare a [op] [b] pos) (pTst (pBin o p q)) :=
  PT.imp (pt_cmpR ho ha hb hm) fun σ H Q ⟨w, m, e, r, g, ev, h, qq⟩ => by
    refine tOp_of (o := o) ⟨w, m, e, ?_⟩
    unfold pTst at h
    cases hp : pBin o p q e m with
    | none => rw [hp] at h; cases h
    | some u =>
      rw [hp] at h
      cases u with
      | exc c m1 => cases h; exact ⟨.exc c m1, g, ev, rfl, qq⟩
      | ok d m1 =>
        refine ⟨.ok d m1, g, ev, rfl, fun w1 v1 H1 g1 x1 r1 => ?_⟩
        have h : toOk (asB d) m1 = some r := h
        obtain ⟨k, hk, rfl⟩ := toOk_some h
        cases d with
        | bl kb => cases hk; exact ⟨_, rep_bl r1, qq w1 H1 g1 x1⟩
        | _ => cases hk
theorem mw_and1 (ha : MT X W a pt) : MW X W (.BoolOp .And [a] pos) pt := pw_and1 ha
theorem mw_or1 (ha : MT X W a pt) : MW X W (.BoolOp .Or [a] pos) pt := pw_or1 ha
theorem mw_and (ha : MT X W a pt) (hb : MW X W (.BoolOp .And (b :: rest) pos) qt) : MW X W (.BoolOp .And (a :: b :: rest) pos) (pAndT pt qt) := PW.imp (pw_and ha hb) fun σ H Q ⟨w, m, e, r, g, ev, h, q⟩ => by
  refine tT_bndT g ev h q fun k m1 w1 H1 h1 g1 x1 ev1 q1 => ?_
  split at h1
  · rename_i hk
    rw [if_pos hk]
    exact ⟨w1, m1, e, r, g1, ev1, h1, q1⟩
  · rename_i hk
    rw [if_neg hk]
    cases h1
    exact q1 w1 H1 g1 Ext.refl
theorem mw_or (ha : MT X W a pt) (hb : MW X W (.BoolOp .Or (b :: rest) pos) qt) : MW X W (.BoolOp .Or (a :: b :: rest) pos) (pOrT pt qt) := PW.imp (pw_or ha hb) fun σ H Q ⟨w, m, e, r, g, ev, h, q⟩ => by
  refine tT_bndT g ev h q fun k m1 w1 H1 h1 g1 x1 ev1 q1 => ?_
  split at h1
  · rename_i hk
    rw [if_pos hk]
    cases h1
    exact q1 w1 H1 g1 Ext.refl
  · rename_i hk
    rw [if_neg hk]
    exact ⟨w1, m1, e, r, g1, ev1, h1, q1⟩
theorem mt_bool (h : MW X W a pt) : MT X W a pt := PW.pt h
theorem mt_not (ha : MT X W a pt) : MT X W (.UnaryOp .Not a pos) (pNotT pt) := PT.imp (pt_not ha) fun σ H Q ⟨w, m, e, r, g, ev, h, q⟩ => by
  refine tT_bndT g ev h q fun k m1 w1 H1 h1 g1 x1 ev1 q1 => ?_
  cases h1
  exact q1 w1 H1 g1 Ext.refl
theorem me_one {op} (h : ME X W a p) : ME X W (.BoolOp op [a] pos) p := pe_one h
theorem me_and (ha : ME X W a p) (hb : ME X W (.BoolOp .And (b :: rest) pos) q) : ME X W (.BoolOp .And (a :: b :: rest) pos) (pAndV p q) := PE.imp (pe_andT ha hb) fun σ H Q ⟨w, m, e, r, g, ev, h, qq⟩ => by
  refine tM_bnd g ev h qq fun d1 m1 w1 v1 H1 h1 g1 x1 r1 ev1 q1 => ?_
  split at h1
  · rename_i hk
    exact ⟨true, tru_rep g1 r1 hk, by rw [if_pos rfl]; exact ⟨w1, m1, e, r, g1, ev1, h1, q1⟩⟩
  · rename_i hk
    cases h1
    exact ⟨false, tru_rep g1 r1 hk, by rw [if_neg Bool.false_ne_true]; exact q1.now g1 r1⟩
  · cases h1
theorem me_or (ha : ME X W a p) (hb : ME X W (.BoolOp .Or (b :: rest) pos) q) : ME X W (.BoolOp .Or (a :: b :: rest) pos) (pOrV p q) := PE.imp (pe_orT ha hb) fun σ H Q ⟨w, m, e, r, g, ev, h, qq⟩ => by
  refine tM_bnd g ev h qq fun d1 m1 w1 v1 H1 h1 g1 x1 r1 ev1 q1 => ?_
  split at h1
  · rename_i hk
    cases h1
    exact ⟨true, tru_rep g1 r1 hk, by rw [if_pos rfl]; exact q1.now g1 r1⟩
  · rename_i hk
    exact ⟨false, tru_rep g1 r1 hk, by rw [if_neg Bool.false_ne_true]; exact ⟨w1, m1, e, r, g1, ev1, h1, q1⟩⟩
  · cases h1
theorem me_if (hc : MT X W c pt) (ha : ME X W a p) (hb : ME X W b q) : ME X W (.IfExp c a b pos) (pIf pt p q) := PE.imp (pe_ifExp hc ha hb) fun σ H Q ⟨w, m, e, r, g, ev, h, qq⟩ => by
  refine tT_bnd g ev h qq fun k m1 w1 H1 h1 g1 x1 ev1 q1 => ?_
  split at h1
  · rename_i hk
    rw [if_pos hk]
    exact ⟨w1, m1, e, r, g1, ev1, h1, q1⟩
  · rename_i hk
    rw [if_neg hk]
    exact ⟨w1, m1, e, r, g1, ev1, h1, q1⟩
theorem chain_of {o o' : VK2} {σ : L2.St} {H : Hp} {Q : VK} (hbl : ∀ a b m d, o a b m = some d → ∃ k, d = .bl k) (h : tM X W (pChain o o' p q r') σ H Q) : tChain (r2of X o) (r2of X o') (tM X W p) (tM X W q) (tM X W r') σ H Q := by
  obtain ⟨w, m, e, r, g, ev, h, qq⟩ := h
  refine tM_bnd g ev h qq fun d1 m1 w1 v1 H1 h1 g1 x1 r1 ev1 q1 => ?_
  refine tM_bnd g1 ev1 h1 q1 fun d2 m2 w2 v2 H2 h2 g2 x2 r2 ev2 q2 => ?_
  split at h2
  · rename_i hk
    refine ⟨w2, m2, d1, d2, _, g2, r1.mono x2, r2, hk, fun w3 v3 H3 g3 x3 r3 => ?_⟩
    obtain rfl := rep_bl r3
    refine ⟨true, rfl, ?_⟩
    rw [if_pos rfl]
    refine tM_bnd g3 (ev2.mono x3) h2 (PostE.ext q2 x3) fun d3 m3 w4 v4 H4 h3 g4 x4 r4 ev4 q4 => ?_
    obtain ⟨d, hd, rfl⟩ := lift1_some h3
    exact ⟨w4, m3, d2, d3, d, g4, (r2.mono x3).mono x4, r4, hd, q4⟩
  · rename_i hk
    refine ⟨w2, m2, d1, d2, _, g2, r1.mono x2, r2, hk, fun w3 v3 H3 g3 x3 r3 => ?_⟩
    obtain rfl := rep_bl r3
    refine ⟨false, rfl, ?_⟩
    rw [if_neg Bool.false_ne_true]
    cases h2
    exact q2 w3 _ H3 g3 x3 r3
  · cases h2
theorem me_chain {op op' : CmpOp} {o o' : VK2} (hbl : ∀ a b m d, o a b m = some d → ∃ k, d = .bl k) (ho : OpR X (compareOp op) (r2of X o)) (ho' : OpR X (compareOp op') (r2of X o')) (ha : ME X W a p) (hb : ME X W b q) (hc : ME X W c r')
    (hm : lastMarks [op, op'] [b, c] = false := by with_unfolding_all rfl) : ME X W (.Compare a [op, op'] [b, c] pos) (pChain o o' p q r') := PE.imp (pe_chain ho ho' ha hb hc hm) fun _ _ _ h => chain_of hbl h
theorem mt_chain {op op' : CmpOp} {o o' : VK2} (hbl : ∀ a b m d, o a b m = some d → ∃ k, d = .bl k) (ho : OpR X (compareOp op) (r2of X o)) (ho' : OpR X (compareOp op') (r2of X o')) (ha : ME X W a p) (hb : ME X W b q) (hc : ME X W c r')
    (hm : lastMarks [op, op'] [b, c] = false := by with_unfolding_all rfl) : MT X W (.Compare a [op, op'] [b, c] pos) (pTst (pChain o o' p q r')) := PT.imp (pt_chain ho ho' ha hb hc hm) fun σ H Q ⟨w, m, e, r, g, ev, h, qq⟩ => by
  refine chain_of (o := o) (o' := o') hbl ⟨w, m, e, ?_⟩
  unfold pTst at h
  cases hp : pChain o o' p q r' e m with
  | none => rw [hp] at h; cases h
  | some u =>
    rw [hp] at h
    cases u with
    | exc c m1 => cases h; exact ⟨.exc c m1, g, ev, rfl, qq⟩
    | ok d m1 =>
      refine ⟨.ok d m1, g, ev, rfl, fun w1 v1 H1 g1 x1 r1 => ?_⟩
      have h : toOk (asB d) m1 = some r := h
      obtain ⟨k, hk, rfl⟩ := toOk_some h
      cases d with
      | bl kb => cases hk; exact ⟨_, rep_bl r1, qq w1 H1 g1 x1⟩
      | _ => cases hk
theorem bl_oLt (a b : D) (m : Mem) (d : D) (h : oLt a b m = some d) : ∃ k, d = .bl k := by
  unfold oLt at h
  split at h
  · cases h; exact ⟨_, rfl⟩
  · cases h; exact ⟨_, rfl⟩
  · split at h <;> cases h
    exact ⟨_, rfl⟩
  · cases h
theorem bl_oLe (a b : D) (m : Mem) (d : D) (h : oLe a b m = some d) : ∃ k, d = .bl k := by
  unfold oLe at h
  split at h <;> cases h <;> exact ⟨_, rfl⟩
theorem bl_oEq (a b : D) (m : Mem) (d : D) (h : oEq a b m = some d) : ∃ k, d = .bl k := by
  obtain ⟨k, _, h⟩ := toBl_some h
  exact ⟨k, h⟩
end

/-! ### argument lists, displays -/
def pNil : PAF := fun _ m => some (.ok [] m)
def pCons (p : PEF) (q : PAF) : PAF := fun e m => bnd (p e m) fun d m1 => bnd (q e m1) fun ds m2 => some (.ok (d :: ds) m2)
def pTup (p : PAF) : PEF := fun e m => bnd (p e m) fun ds m1 => if ds.length ≤ SL then some (.ok (.tup ds) m1) else none
def pLst (p : PAF) : PEF := fun e m => bnd (p e m) fun ds m1 => if ds.length ≤ SL then some (.ok (.lst ds) m1) else none
/-- a list that will change -/
def pLstM (p : PAF) : PEF := fun e m => bnd (p e m) fun ds m1 => if ds.length ≤ SL then some (.ok (.loc m1.length) (m1 ++ [.lst ds])) else none
/-- a list that will change no more -/
def frzD (d : D) (m : Mem) : Out D := match d with
  | .loc i => match m[i]? with
    | some (.lst l) => .ok (.lst l) (m.set i (.frz l))
    | some (.frz l) => .ok (.lst l) m
    | none => .ok d m
  | d => .ok d m
def pFrz (p : PEF) : PEF := fun e m => bnd (p e m) fun d m1 => some (frzD d m1)
section
variable {X : Cx} {W : WX} {e : Expr} {es : List Expr} {p : PEF} {q : PAF} {pos : Pos}
theorem ma_nil : MA X W [] pNil := PA.imp pa_nil fun σ H Q ⟨w, m, e, r, g, ev, h, q⟩ => by
  cases h
  exact q w [] H g Ext.refl RepL.nil
theorem ma_cons (ha : ME X W e p) (hr : MA X W es q) (hs : starEach (e :: es) X.env = (false, eval e X.env) :: starEach es X.env := by rfl) : MA X W (e :: es) (pCons p q) := PA.imp (pa_cons ha hr hs) fun σ H Q ⟨w, m, e, r, g, ev, h, q⟩ => by
  refine tM_bndA g ev h q fun d1 m1 w1 v1 H1 h1 g1 x1 r1 ev1 q1 => ?_
  refine tA_bndA g1 ev1 h1 q1 fun d2 m2 w2 v2 H2 h2 g2 x2 r2 ev2 q2 => ?_
  cases h2
  exact q2 w2 _ H2 g2 Ext.refl (RepL.cons (r1.mono x2) r2)
theorem me_tup {x1} (h : MA X W es q) : ME X W (.Tuple es x1 pos) (pTup q) := PE.imp (pe_tup h) fun σ H Q ⟨w, m, e, r, g, ev, h, q⟩ => by
  refine tA_bnd g ev h q fun d1 m1 w1 v1 H1 h1 g1 x1 r1 ev1 q1 => ?_
  split at h1
  · rename_i hz
    cases h1
    exact ⟨by rw [r1.len, ← SL_eq]; exact hz, fun p hp => q1 w1 _ _ (g1.new hp) (Ext.new g1 hp) (new_tup g1 hp r1)⟩
  · cases h1
theorem me_lst (h : MA X W es q) : ME X W (.List es pos) (pLst q) := PE.imp (pe_lst h) fun σ H Q ⟨w, m, e, r, g, ev, h, q⟩ => by
  refine tA_bnd g ev h q fun d1 m1 w1 v1 H1 h1 g1 x1 r1 ev1 q1 => ?_
  split at h1
  · rename_i hz
    cases h1
    exact ⟨by rw [r1.len, ← SL_eq]; exact hz, fun p hp => q1 (w1.fzn p) _ _ (g1.newF hp) ((Ext.new g1 hp).trans Ext.fzn) (new_lst g1 hp r1)⟩
  · cases h1
theorem new_loc {K : PySem.W.Frag} {w : Wd} {H : Hp} {m : Mem} {p : Addr} (g : Good K w H m) : Rep K (w.push p) H (.loc m.length) (.ref p) := by
  simp only [Rep]
  refine ⟨p, rfl, ?_⟩
  show (w.ρ ++ [p])[m.length]? = some p
  rw [← g.len, List.getElem?_append_right (Nat.le_refl _), Nat.sub_self]
  rfl
theorem rep_push {K : PySem.W.Frag} {w : Wd} {H H' : Hp} {m : Mem} {p : Addr} (g : Good K w H m) : Rep K (w.push p) H' (.loc m.length) (.ref p) := by
  have := new_loc (p := p) g
  simp only [Rep] at this ⊢
  exact this
theorem me_lstM (h : MA X W es q) : ME X W (.List es pos) (pLstM q) := PE.imp (pe_lst h) fun σ H Q ⟨w, m, e, r, g, ev, h, q⟩ => by
  refine tA_bnd g ev h q fun d1 m1 w1 v1 H1 h1 g1 x1 r1 ev1 q1 => ?_
  split at h1
  · rename_i hz
    cases h1
    exact ⟨by rw [r1.len, ← SL_eq]; exact hz, fun p hp => q1 (w1.push p) _ _ (g1.newL hp r1) ((Ext.new g1 hp).trans Ext.push) (rep_push g1)⟩
  · cases h1
theorem frz_rep {K : PySem.W.Frag} {w : Wd} {H : Hp} {m : Mem} {d : D} {v : V} (g : Good K w H m) (r : Rep K w H d v) : ∃ w' d' m', frzD d m = .ok d' m' ∧ Good K w' H m' ∧ Ext K w H w' H ∧ Rep K w' H d' v := by
  cases d with
  | loc i =>
    have hr := r
    simp only [Rep] at r
    obtain ⟨a, rfl, r2⟩ := r
    obtain ⟨c, hc⟩ := g.cell r2
    cases c with
    | lst l =>
      obtain ⟨h1, h2⟩ := g.freeze hc r2
      exact ⟨w.fzn a, .lst l, m.set i (.frz l), by simp only [frzD, hc], h1, Ext.fzn, h2⟩
    | frz l => exact ⟨w, .lst l, m, by simp only [frzD, hc], g, Ext.refl, g.thaw hc r2⟩
  | _ => exact ⟨w, _, m, rfl, g, Ext.refl, r⟩
theorem me_frz (h : ME X W e p) : ME X W e (pFrz p) := PE.imp h fun σ H Q ⟨w, m, e, r, g, ev, h, q⟩ => by
  refine tM_bnd g ev h q fun d1 m1 w1 v1 H1 h1 g1 x1 r1 ev1 q1 => ?_
  cases h1
  obtain ⟨w', d', m', e1, g', x', r'⟩ := frz_rep g1 r1
  rw [e1] at q1
  exact q1 w' _ H1 g' x' r'
end

/-! ### calls of built-ins -/
def rcOf (X : Cx) (o : List D → Mem → Option D) : List V → Hp → VK → Prop := fun xs H Q => ∃ w m ds r, Good X.K w H m ∧ RepL X.K w H ds xs ∧ o ds m = some r ∧ ∀ w' v H', Good X.K w' H' m → Ext X.K w H w' H' → Rep X.K w' H' r v → Q v H'
def pCall (o : List D → Mem → Option D) (p : PAF) : PEF := fun e m => bnd (p e m) fun ds m1 => lift1 (o ds m1) m1
def oLen (ds : List D) (m : Mem) : Option D := match ds with
  | [.tup l] => some (.int l.length)
  | [.str z] => if z.length ≤ SL then some (.int z.length) else none
  | [a] => match asL m a with
    | some l => some (.int l.length)
    | none => none
  | _ => none
def oAbs (ds : List D) (_ : Mem) : Option D := match ds with
  | [.int i] => some (.int (if i < 0 then -i else i))
  | _ => none
def oMax2 (ds : List D) (_ : Mem) : Option D := match ds with
  | [.int i, .int j] => some (.int (if j > i then j else i))
  | _ => none
def oMin2 (ds : List D) (_ : Mem) : Option D := match ds with
  | [.int i, .int j] => some (.int (if j < i then j else i))
  | _ => none
def oInt (ds : List D) (_ : Mem) : Option D := match ds with
  | [.int i] => some (.int i)
  | [.bl k] => some (.int (if k then 1 else 0))
  | _ => none
def oList (ds : List D) (m : Mem) : Option D := match ds with
  | [.tup l] => some (.lst l)
  | [a] => match asL m a with
    | some l => some (.lst l)
    | none => none
  | _ => none
def oTuple (ds : List D) (m : Mem) : Option D := match ds with
  | [.tup l] => some (.tup l)
  | [a] => match asL m a with
    | some l => some (.tup l)
    | none => none
  | _ => none
def blsOf : List D → Option (List Bool)
  | [] => some []
  | .bl b :: l => match blsOf l with
    | some r => some (b :: r)
    | none => none
  | _ => none
def oAll (ds : List D) (m : Mem) : Option D := match ds with
  | [a] => match asL m a with
    | some l => match blsOf l with
      | some bs => some (.bl (bs.all id))
      | none => none
    | none => none
  | _ => none
def oAny (ds : List D) (m : Mem) : Option D := match ds with
  | [a] => match asL m a with
    | some l => match blsOf l with
      | some bs => some (.bl (bs.any id))
      | none => none
    | none => none
  | _ => none
def oSum (ds : List D) (m : Mem) : Option D := match ds with
  | [a] => match asL m a with
    | some l => match intsOf l with
      | some ns => some (.int ns.sum)
      | none => none
    | none => none
  | _ => none
def oStr (ds : List D) (_ : Mem) : Option D := match ds with
  | [.int i] => if i.natAbs.log2 < 1920 then some (.str (Str.ofString (toString i))) else none
  | _ => none
section
variable {X : Cx} {W : WX} {x : Str} {p pos : Pos} {e : Expr} {es : List Expr} {q : PAF} {id T : String} {o : List D → Mem → Option D}
theorem tCB_of {σ : L2.St} {H : Hp} {Q : VK} (h : tM X W (pCall o q) σ H Q) : tCB (rcOf X o) (tA X W q) σ H Q := by
  obtain ⟨w, m, e, r, g, ev, h, qq⟩ := h
  refine tA_bnd g ev h qq fun d1 m1 w1 v1 H1 h1 g1 x1 r1 ev1 q1 => ?_
  obtain ⟨d, hd, rfl⟩ := lift1_some h1
  exact ⟨w1, m1, d1, d, g1, r1, hd, q1⟩
theorem me_callB (hc : CallR X (.builtin id) (rcOf X o)) (hg : Gl X x) (hm : X.mg x = none) (hv : bootBuiltins x = some (.builtin id)) (ha : MA X W (e :: es) q) (hn : x ≠ "__name__" := by decide) (hdb : (x == ("__debug__" : Str)) = false := by decide)
    (he : starEach (e :: es) X.env = (false, eval e X.env) :: starEach es X.env := by rfl) (hpl : (backTo pos (starEach es X.env)).any (·.1) = false := by rfl) : ME X W (.Call (.Name x p) (e :: es) [] pos) (pCall o q) :=
  PE.imp (pe_callB hc hg hm hv ha hn hdb he hpl) fun _ _ _ h => tCB_of h
theorem me_callTy (hc : CallR X (.type T) (rcOf X o)) (hg : Gl X x) (hm : X.mg x = none) (hv : bootBuiltins x = some (.type T)) (ha : MA X W (e :: es) q) (hn : x ≠ "__name__" := by decide) (hdb : (x == ("__debug__" : Str)) = false := by decide)
    (he : starEach (e :: es) X.env = (false, eval e X.env) :: starEach es X.env := by rfl) (hpl : (backTo pos (starEach es X.env)).any (·.1) = false := by rfl) : ME X W (.Call (.Name x p) (e :: es) [] pos) (pCall o q) :=
  PE.imp (pe_callTy hc hg hm hv ha hn hdb he hpl) fun _ _ _ h => tCB_of h
theorem repL1 {K : PySem.W.Frag} {w : Wd} {H : Hp} {a : D} {xs : List V} (h : RepL K w H [a] xs) : ∃ v, xs = [v] ∧ Rep K w H a v := by
  obtain ⟨v, r, rfl, h1, h2⟩ := RepL.cons_iff.mp h
  rw [RepL.nil_iff.mp h2]
  exact ⟨v, rfl, h1⟩
theorem repL2 {K : PySem.W.Frag} {w : Wd} {H : Hp} {a b : D} {xs : List V} (h : RepL K w H [a, b] xs) : ∃ v u, xs = [v, u] ∧ Rep K w H a v ∧ Rep K w H b u := by
  obtain ⟨v, r, rfl, h1, h2⟩ := RepL.cons_iff.mp h
  obtain ⟨u, rfl, h3⟩ := repL1 h2
  exact ⟨v, u, rfl, h1, h3⟩
theorem cr_oLen : CallR X (.builtin "len") (rcOf X oLen) := by
  intro pins s σ H xs us Q I r h
  obtain ⟨w, m, ds, d, g, hd, h, q⟩ := h
  unfold oLen at h
  split at h
  · cases h
    obtain ⟨v, rfl, rv⟩ := repL1 hd
    obtain ⟨a, ys, rfl, ha, hl⟩ := asT_rep rv rfl
    exact call_len pins s σ H _ us Q I r ⟨_, _, rfl, .inr ⟨ys, ha, rfl⟩, by rw [hl.len]; exact q w _ H g Ext.refl (by simp only [Rep])⟩
  · split at h
    · rename_i hz
      cases h
      obtain ⟨v, rfl, rv⟩ := repL1 hd
      obtain rfl := rep_str rv
      exact call_len pins s σ H _ us Q I r ⟨_, _, rfl, ⟨by rw [← SL_eq]; exact hz, rfl⟩, q w _ H g Ext.refl (by simp only [Rep])⟩
    · cases h
  · split at h
    · rename_i l hl
      cases h
      obtain ⟨v, rfl, rv⟩ := repL1 hd
      obtain ⟨a, ys, rfl, ha, hr⟩ := asL_rep g rv hl
      exact call_len pins s σ H _ us Q I r ⟨_, _, rfl, .inl ⟨ys, ha, rfl⟩, by rw [hr.len]; exact q w _ H g Ext.refl (by simp only [Rep])⟩
    · cases h
  · cases h
theorem cr_oAbs : CallR X (.builtin "abs") (rcOf X oAbs) := by
  intro pins s σ H xs us Q I r h
  obtain ⟨w, m, ds, d, g, hd, h, q⟩ := h
  unfold oAbs at h
  split at h
  · cases h
    obtain ⟨v, rfl, rv⟩ := repL1 hd
    obtain rfl := rep_int rv
    exact call_abs pins s σ H _ us Q I r ⟨_, rfl, q w _ H g Ext.refl (by simp only [Rep])⟩
  · cases h
theorem cr_oMax2 (hc : X.calm = true) : CallR X (.builtin "max") (rcOf X oMax2) := by
  intro pins s σ H xs us Q I r h
  obtain ⟨w, m, ds, d, g, hd, h, q⟩ := h
  unfold oMax2 at h
  split at h
  · cases h
    obtain ⟨v, u, rfl, rv, ru⟩ := repL2 hd
    obtain rfl := rep_int rv
    obtain rfl := rep_int ru
    exact call_max2 hc pins s σ H _ us Q I r ⟨_, _, rfl, q w _ H g Ext.refl (by simp only [Rep])⟩
  · cases h
theorem cr_oMin2 (hc : X.calm = true) : CallR X (.builtin "min") (rcOf X oMin2) := by
  intro pins s σ H xs us Q I r h
  obtain ⟨w, m, ds, d, g, hd, h, q⟩ := h
  unfold oMin2 at h
  split at h
  · cases h
    obtain ⟨v, u, rfl, rv, ru⟩ := repL2 hd
    obtain rfl := rep_int rv
    obtain rfl := rep_int ru
    exact call_min2 hc pins s σ H _ us Q I r ⟨_, _, rfl, q w _ H g Ext.refl (by simp only [Rep])⟩
  · cases h
theorem cr_oInt : CallR X (.type "int") (rcOf X oInt) := by
  intro pins s σ H xs us Q I r h
  obtain ⟨w, m, ds, d, g, hd, h, q⟩ := h
  unfold oInt at h
  split at h
  · cases h
    obtain ⟨v, rfl, rv⟩ := repL1 hd
    obtain rfl := rep_int rv
    exact call_int1 pins s σ H _ us Q I r (.inl ⟨_, rfl, q w _ H g Ext.refl (by simp only [Rep])⟩)
  · cases h
    obtain ⟨v, rfl, rv⟩ := repL1 hd
    obtain rfl := rep_bl rv
    exact call_int1 pins s σ H _ us Q I r (.inr ⟨_, rfl, q w _ H g Ext.refl (by simp only [Rep])⟩)
  · cases h
theorem cr_oStr : CallR X (.type "str") (rcOf X oStr) := by
  intro pins s σ H xs us Q I r h
  obtain ⟨w, m, ds, d, g, hd, h, q⟩ := h
  unfold oStr at h
  split at h
  · split at h
    · rename_i hl
      cases h
      obtain ⟨v, rfl, rv⟩ := repL1 hd
      obtain rfl := rep_int rv
      exact call_str_int pins s σ H _ us Q I r ⟨_, rfl, hl, q w _ H g Ext.refl (by simp only [Rep])⟩
    · cases h
  · cases h
theorem cr_oList : CallR X (.type "list") (rcOf X oList) := by
  intro pins s σ H xs us Q I r h
  obtain ⟨w, m, ds, d, g, hd, h, q⟩ := h
  unfold oList at h
  split at h
  · cases h
    obtain ⟨v, rfl, rv⟩ := repL1 hd
    obtain ⟨a, ys, rfl, ha, hl⟩ := asT_rep rv rfl
    exact call_list_of pins s σ H _ us Q I r ⟨a, ys, rfl, .inr ha, fun p hp => q (w.fzn p) _ _ (g.newF hp) ((Ext.new g hp).trans Ext.fzn) (new_lst g hp hl)⟩
  · split at h
    · rename_i l hl
      cases h
      obtain ⟨v, rfl, rv⟩ := repL1 hd
      obtain ⟨a, ys, rfl, ha, hr⟩ := asL_rep g rv hl
      exact call_list_of pins s σ H _ us Q I r ⟨a, ys, rfl, .inl ha, fun p hp => q (w.fzn p) _ _ (g.newF hp) ((Ext.new g hp).trans Ext.fzn) (new_lst g hp hr)⟩
    · cases h
  · cases h
theorem cr_oTuple : CallR X (.type "tuple") (rcOf X oTuple) := by
  intro pins s σ H xs us Q I r h
  obtain ⟨w, m, ds, d, g, hd, h, q⟩ := h
  unfold oTuple at h
  split at h
  · cases h
    obtain ⟨v, rfl, rv⟩ := repL1 hd
    have rv' := rv
    obtain ⟨a, ys, rfl, ha, hl⟩ := asT_rep rv rfl
    exact call_tuple_of pins s σ H _ us Q I r ⟨a, ys, rfl, .inr ⟨ha, q w _ H g Ext.refl rv'⟩⟩
  · split at h
    · rename_i l hl
      cases h
      obtain ⟨v, rfl, rv⟩ := repL1 hd
      obtain ⟨a, ys, rfl, ha, hr⟩ := asL_rep g rv hl
      exact call_tuple_of pins s σ H _ us Q I r ⟨a, ys, rfl, .inl ⟨ha, fun p hp => q w _ _ (g.new hp) (Ext.new g hp) (new_tup g hp hr)⟩⟩
    · cases h
  · cases h
theorem blsOf_rep {K : PySem.W.Frag} {w : Wd} {H : Hp} : ∀ {l : List D} {bs : List Bool} {xs : List V}, blsOf l = some bs → RepL K w H l xs → xs = bs.map V.bl
  | [], _, _, h, r => by simp only [blsOf] at h; cases h; exact RepL.nil_iff.mp r
  | d :: l, bs, xs, h, r => by
    cases d with
    | bl b =>
      simp only [blsOf] at h
      split at h
      · rename_i r' hr
        cases h
        obtain ⟨v, t, rfl, h1, h2⟩ := RepL.cons_iff.mp r
        rw [List.map_cons, ← blsOf_rep hr h2, rep_bl h1]
      · cases h
    | _ => simp only [blsOf] at h; cases h
theorem cr_oAll (hc : X.calm = true) : CallR X (.builtin "all") (rcOf X oAll) := by
  intro pins s σ H xs us Q I r h
  obtain ⟨w, m, ds, d, g, hd, h, q⟩ := h
  unfold oAll at h
  split at h
  · split at h
    · rename_i l hl
      split at h
      · rename_i bs hb
        cases h
        obtain ⟨v, rfl, rv⟩ := repL1 hd
        obtain ⟨a, ys, rfl, ha, hr⟩ := asL_rep g rv hl
        rw [blsOf_rep hb hr] at ha
        exact cr_all hc pins s σ H _ us Q I r ⟨a, bs, rfl, ha, q w _ H g Ext.refl (by simp only [Rep])⟩
      · cases h
    · cases h
  · cases h
theorem cr_oAny (hc : X.calm = true) : CallR X (.builtin "any") (rcOf X oAny) := by
  intro pins s σ H xs us Q I r h
  obtain ⟨w, m, ds, d, g, hd, h, q⟩ := h
  unfold oAny at h
  split at h
  · split at h
    · rename_i l hl
      split at h
      · rename_i bs hb
        cases h
        obtain ⟨v, rfl, rv⟩ := repL1 hd
        obtain ⟨a, ys, rfl, ha, hr⟩ := asL_rep g rv hl
        rw [blsOf_rep hb hr] at ha
        exact cr_any hc pins s σ H _ us Q I r ⟨a, bs, rfl, ha, q w _ H g Ext.refl (by simp only [Rep])⟩
      · cases h
    · cases h
  · cases h
theorem cr_oSum (hc : X.calm = true) : CallR X (.builtin "sum") (rcOf X oSum) := by
  intro pins s σ H xs us Q I r h
  obtain ⟨w, m, ds, d, g, hd, h, q⟩ := h
  unfold oSum at h
  split at h
  · split at h
    · rename_i l hl
      split at h
      · rename_i bs hb
        cases h
        obtain ⟨v, rfl, rv⟩ := repL1 hd
        obtain ⟨a, ys, rfl, ha, hr⟩ := asL_rep g rv hl
        rw [intsOf_eq hb] at hr
        rw [hr.ints] at ha
        exact cr_sum hc pins s σ H _ us Q I r ⟨a, bs, rfl, ha, q w _ H g Ext.refl (by simp only [Rep])⟩
      · cases h
    · cases h
  · cases h
end
end Z

set_option maxRecDepth 100000
set_option maxHeartbeats 4000000
set_option autoImplicit false
namespace Z
open PySem PySem.Spec PyProof.Rows L2

/-! ### isinstance -/
def kindD : D → Option String
  | .non => some "NoneType"
  | .bl _ => some "bool"
  | .int _ => some "int"
  | .str _ => some "str"
  | .tup _ => some "tuple"
  | .lst _ => some "list"
  | .ro _ => some "list"
  | .loc _ => some "list"
def isKind (k T : String) : Bool := k == T || (k == "bool" && T == "int")
def oIsi (T : String) (a : D) (_ : Mem) : Option D := match kindD a with
  | some k => some (.bl (isKind k T))
  | none => none
section
variable {X : Cx} {W : WX} {a : Expr} {p : PEF}
theorem ty_rep {K : PySem.W.Frag} {w : Wd} {H : Hp} {m : Mem} {d : D} {v : V} {k : String} (g : Good K w H m) (r : Rep K w H d v) (h : kindD d = some k) : TyX K H v (.type k) := by
  cases d with
  | non => cases h; obtain rfl := rep_non r; exact .base .non
  | bl b => cases h; obtain rfl := rep_bl r; exact .base (.bl b)
  | int b => cases h; obtain rfl := rep_int r; exact .base (.int b)
  | str b => cases h; obtain rfl := rep_str r; exact .base (.str b)
  | tup l =>
    cases h
    obtain ⟨a, xs, rfl, ha, hl⟩ := asT_rep r rfl
    rcases ha with (ha | ⟨o, ha⟩) | ⟨o, its, n, h1, h2, _⟩
    · exact .base (.tup ha)
    · exact .fTuple ha
    · exact .kTuple h1 h2
  | lst l =>
    cases h
    obtain ⟨a, xs, rfl, ha, hl⟩ := asH_rep (m := m) (l := l) g r rfl
    exact .base (.lst ha)
  | ro l =>
    cases h
    simp only [Rep] at r
    obtain ⟨a, xs, rfl, ha, hl⟩ := r
    rcases ha with (⟨o, ha⟩ | ⟨o, its, n, h1, h2, _⟩) | ⟨_, ha⟩
    · exact .base (.frz ha)
    · exact .kList h1 h2
    · exact .base (.lst ha)
  | loc i =>
    cases h
    simp only [Rep] at r
    obtain ⟨a, rfl, ha⟩ := r
    obtain ⟨xs, hx⟩ := g.there ha
    exact .base (.lst hx)
theorem kit_all : ∀ k ∈ ["NoneType", "bool", "int", "str", "tuple", "list"], ∀ T ∈ ["bool", "int", "str", "tuple", "list", "dict"], kitB k T = some (isKind k T) := by decide +kernel
theorem kind_mem {d : D} {k : String} (h : kindD d = some k) : k ∈ ["NoneType", "bool", "int", "str", "tuple", "list"] := by
  cases d <;> cases h <;> decide
theorem me_isi {T : String} {t : Str} {p1 p2 pos : Pos} (hT : T ∈ ["bool", "int", "str", "tuple", "list", "dict"]) (hg : Gl X "isinstance") (hm : X.mg "isinstance" = none) (hg2 : Gl X t) (hm2 : X.mg t = none) (hv : bootBuiltins t = some (.type T)) (ha : ME X W a p)
    (hn : t ≠ "__name__" := by decide) (hdb : (t == ("__debug__" : Str)) = false := by decide)
    (he : starEach [a, .Name t p2] X.env = (false, eval a X.env) :: starEach [.Name t p2] X.env := by rfl) (hpl : (backTo pos (starEach [.Name t p2] X.env)).any (·.1) = false := by rfl) : ME X W (.Call (.Name "isinstance" p1) [a, .Name t p2] [] pos) (pUn (oIsi T) p) := by
  refine PE.imp (pe_callB call_isi hg hm PyProof.Rows.boot_isinstance (pa_cons ha (pa_cons (pe_bltn (v := .ty T) hg2 hm2 hv rfl hn hdb) pa_nil) he) (by decide) (by decide) he hpl) fun σ H Q ⟨w, m, e, r, g, ev, h, q⟩ => ?_
  refine tM_bnd g ev h q fun d1 m1 w1 v1 H1 h1 g1 x1 r1 ev1 q1 => ?_
  obtain ⟨d, hd, rfl⟩ := lift1_some h1
  unfold oIsi at hd
  split at hd
  · rename_i k hk
    cases hd
    exact ⟨v1, .ty T, .type k, .type T, _, rfl, .ty T, ty_rep g1 r1 hk, kit_ty (kit_all k (kind_mem hk) T hT), q1.now g1 (by simp only [Rep])⟩
  · cases hd
end

/-! ### methods of lists -/
def pMth (o : Nat → D → Mem → Option (Out D)) (p q : PEF) : PEF := fun e m => bnd (p e m) fun a m1 => match a with
  | .loc i => bnd (q e m1) fun b m2 => o i b m2
  | _ => none
def pMth0 (o : Nat → Mem → Option (Out D)) (p : PEF) : PEF := fun e m => bnd (p e m) fun a m1 => match a with
  | .loc i => o i m1
  | _ => none
/-- x.append(y) -/
def oApp (i : Nat) (b : D) (m : Mem) : Option (Out D) := match m[i]? with
  | some (.lst l) => if l.length < SL then some (.ok .non (m.set i (.lst (l ++ [b])))) else none
  | _ => none
def oExt (i : Nat) (b : D) (m : Mem) : Option (Out D) := match m[i]?, asH m b with
  | some (.lst l), some r => if l.length + r.length ≤ SL then some (.ok .non (m.set i (.lst (l ++ r)))) else none
  | _, _ => none
def oPop (i : Nat) (m : Mem) : Option (Out D) := match m[i]? with
  | some (.lst l) => match l[l.length - 1]? with
    | some d => some (.ok d (m.set i (.lst l.dropLast)))
    | none => none
  | _ => none
section
variable {X : Cx} {W : WX} {a b : Expr} {p q : PEF} {apos pos : Pos}
theorem loc_ty {K : PySem.W.Frag} {w : Wd} {H : Hp} {m : Mem} {i : Nat} {v : V} (g : Good K w H m) (r : Rep K w H (.loc i) v) : tyV K "list" v H := by
  simp only [Rep] at r
  obtain ⟨a, rfl, ha⟩ := r
  obtain ⟨xs, hx⟩ := g.there ha
  exact .inl ⟨rfl, xs, SqL.of hx⟩
theorem loc_at {K : PySem.W.Frag} {w : Wd} {H : Hp} {m : Mem} {i : Nat} {v : V} {l : List D} (g : Good K w H m) (r : Rep K w H (.loc i) v) (h : m[i]? = some (.lst l)) : ∃ a xs, v = .ref a ∧ w.ρ[i]? = some a ∧ H a = some (.lst xs) ∧ RepL K w H l xs := by
  simp only [Rep] at r
  obtain ⟨a, rfl, ha⟩ := r
  obtain ⟨_, xs, h1, h2⟩ : ¬ w.fz a ∧ ∃ xs, H a = some (.lst xs) ∧ RepL K w H l xs := g.at' i _ a h ha
  exact ⟨a, xs, rfl, ha, h1, h2⟩
theorem mth_of {o : Nat → D → Mem → Option (Out D)} {r : V → List V → Hp → VK → Prop}
    (hr : ∀ w H m i d2 v1 v2 u σ Q, Good X.K w H m → Rep X.K w H (.loc i) v1 → Rep X.K w H d2 v2 → o i d2 m = some u → PostE X W σ w H Q u → r v1 [v2] H Q)
    {σ : L2.St} {H : Hp} {Q : VK} (h : tM X W (pMth o p q) σ H Q) : tBM X.K "list" r (tM X W p) (tCons (tM X W q) tNil) σ H Q := by
  obtain ⟨w, m, e, u, g, ev, h, qq⟩ := h
  refine tM_bnd g ev h qq fun d1 m1 w1 v1 H1 h1 g1 x1 r1 ev1 q1 => ?_
  cases d1 with
  | loc i =>
    refine ⟨loc_ty g1 r1, ?_⟩
    refine tM_bnd g1 ev1 h1 q1 fun d2 m2 w2 v2 H2 h2 g2 x2 r2 ev2 q2 => ?_
    exact hr w2 H2 m2 i d2 v1 v2 u σ Q g2 (r1.mono x2) r2 h2 q2
  | _ => cases h1
theorem mth0_of {o : Nat → Mem → Option (Out D)} {r : V → List V → Hp → VK → Prop}
    (hr : ∀ w H m i v1 u σ Q, Good X.K w H m → Rep X.K w H (.loc i) v1 → o i m = some u → PostE X W σ w H Q u → r v1 [] H Q)
    {σ : L2.St} {H : Hp} {Q : VK} (h : tM X W (pMth0 o p) σ H Q) : tBM0 X.K "list" r (tM X W p) σ H Q := by
  obtain ⟨w, m, e, u, g, ev, h, qq⟩ := h
  refine tM_bnd g ev h qq fun d1 m1 w1 v1 H1 h1 g1 x1 r1 ev1 q1 => ?_
  cases d1 with
  | loc i => exact ⟨loc_ty g1 r1, hr w1 H1 m1 i v1 u σ Q g1 r1 h1 q1⟩
  | _ => cases h1
theorem me_append (ha : ME X W a p) (hb : ME X W b q)
    (hbase : attributeBase a "append" X.env (eval a X.env) = eval a X.env := by rfl)
    (hfew : ((backTo pos (starEach [b] X.env)).all (fun x => !x.1) && (backToKw pos (keywordEach [] X.env)).all (fun x => x.1.isSome)
      && decide ([b].length + ([] : List Keyword).length + (if ([] : List Keyword).isEmpty then 0 else 1) < 30)) = true := by rfl)
    (hline : (apos.endLine == pos.line) = true := by rfl) (hs : starEach [b] X.env = (false, eval b X.env) :: starEach [] X.env := by rfl) (hplain : (backTo pos (starEach [] X.env)).any (·.1) = false := by rfl) :
    ME X W (.Call (.Attribute a "append" apos) [b] [] pos) (pMth oApp p q) := by
  refine PE.imp (pe_bm PySem.F.plainAttrs_list PySem.F.slot_list_append PySem.F.type_list_append mt_append ha (pa_cons hb pa_nil hs) hbase hfew hline hs hplain) fun _ _ _ h => mth_of (fun w H m i d2 v1 v2 u σ Q g r1 r2 h q => ?_) h
  unfold oApp at h
  split at h
  · rename_i l hm
    split at h
    · rename_i hz
      cases h
      obtain ⟨a, xs, rfl, ha, hx, hl⟩ := loc_at g r1 hm
      exact ⟨a, xs, v2, rfl, rfl, hx, by rw [hl.len, ← SL_eq]; exact hz, q w .non _ (g.write hm ha (hl.append (RepL.cons r2 RepL.nil))) (Ext.write g hm ha) (by simp only [Rep])⟩
    · cases h
  · cases h
theorem me_extend (ha : ME X W a p) (hb : ME X W b q)
    (hbase : attributeBase a "extend" X.env (eval a X.env) = eval a X.env := by rfl)
    (hfew : ((backTo pos (starEach [b] X.env)).all (fun x => !x.1) && (backToKw pos (keywordEach [] X.env)).all (fun x => x.1.isSome)
      && decide ([b].length + ([] : List Keyword).length + (if ([] : List Keyword).isEmpty then 0 else 1) < 30)) = true := by rfl)
    (hline : (apos.endLine == pos.line) = true := by rfl) (hs : starEach [b] X.env = (false, eval b X.env) :: starEach [] X.env := by rfl) (hplain : (backTo pos (starEach [] X.env)).any (·.1) = false := by rfl) :
    ME X W (.Call (.Attribute a "extend" apos) [b] [] pos) (pMth oExt p q) := by
  refine PE.imp (pe_bm PySem.F.plainAttrs_list PySem.F.slot_list_extend PySem.F.type_list_extend mt_extend ha (pa_cons hb pa_nil hs) hbase hfew hline hs hplain) fun _ _ _ h => mth_of (fun w H m i d2 v1 v2 u σ Q g r1 r2 h q => ?_) h
  unfold oExt at h
  split at h
  · rename_i l r hm hr
    split at h
    · rename_i hz
      cases h
      obtain ⟨a, xs, rfl, ha, hx, hl⟩ := loc_at g r1 hm
      obtain ⟨b, ys, rfl, hy, hr⟩ := asH_rep g r2 hr
      exact ⟨a, b, xs, ys, rfl, rfl, hx, hy, by rw [hl.len, hr.len, ← SL_eq]; exact hz, q w .non _ (g.write hm ha (hl.append hr)) (Ext.write g hm ha) (by simp only [Rep])⟩
    · cases h
  · cases h
theorem me_pop (ha : ME X W a p) (hbase : attributeBase a "pop" X.env (eval a X.env) = eval a X.env := by rfl) (hline : (apos.endLine == pos.line) = true := by rfl) :
    ME X W (.Call (.Attribute a "pop" apos) [] [] pos) (pMth0 oPop p) := by
  refine PE.imp (pe_bm0 PySem.F.plainAttrs_list PySem.F.slot_list_pop PySem.F.type_list_pop mt_pop ha hbase hline) fun _ _ _ h => mth0_of (fun w H m i v1 u σ Q g r1 h q => ?_) h
  unfold oPop at h
  split at h
  · rename_i l hm
    split at h
    · rename_i d hd
      cases h
      obtain ⟨a, xs, rfl, ha, hx, hl⟩ := loc_at g r1 hm
      obtain ⟨y, hy, ry⟩ := hl.get hd
      exact ⟨a, xs, y, rfl, rfl, hx, by rw [hl.len]; exact hy, q w y _ (g.write hm ha hl.dropLast) (Ext.write g hm ha) (ry.mono (Ext.write g hm ha))⟩
    · cases h
  · cases h
end

/-! ### statements -/
def PostS (X : Cx) (W : WX) (D : Ends) (w : Wd) (H : Hp) : SOut → Prop
  | .nx e m => ∀ w' σ' H', Good X.K w' H' m → Ext X.K w H w' H' → EvR X.K w' H' e σ' → D.nx σ' H'
  | .rt d m => ∀ w' v H', Good X.K w' H' m → Ext X.K w H w' H' → Rep X.K w' H' d v → D.rt v H'
  | .bk e m => ∀ w' σ' H', Good X.K w' H' m → Ext X.K w H w' H' → EvR X.K w' H' e σ' → D.bk σ' H'
  | .ct e m => ∀ w' σ' H', Good X.K w' H' m → Ext X.K w H w' H' → EvR X.K w' H' e σ' → D.ct σ' H'
  | .exc c e m => ∀ w' σ' H' C, Good X.K w' H' m → Ext X.K w H w' H' → EvR X.K w' H' e σ' → X.mg c = some (.ref C) → W (.ref C) none σ' H'
def tS (X : Cx) (W : WX) (p : PSF) : TS := fun D σ H => ∃ w m e r, Good X.K w H m ∧ EvR X.K w H e σ ∧ p e m = some r ∧ PostS X W D w H r
abbrev MS (X : Cx) (W : WX) (st : Stmt) (p : PSF) : Prop := PS X st (tS X W p)
abbrev MSs (X : Cx) (W : WX) (st : List Stmt) (p : PSF) : Prop := PSs X st (tS X W p)
theorem PS.imp {X : Cx} {e : Stmt} {t t' : TS} (h : PS X e t) (i : ∀ D σ H, t' D σ H → t D σ H) : PS X e t' := ⟨fun pins s σ H Q I q => h.run pins s σ H Q I (i _ _ _ q)⟩
theorem PSs.imp {X : Cx} {e : List Stmt} {t t' : TS} (h : PSs X e t) (i : ∀ D σ H, t' D σ H → t D σ H) : PSs X e t' := ⟨fun pins s σ H Q I q => h.run pins s σ H Q I (i _ _ _ q)⟩
theorem PostS.ext {X : Cx} {W : WX} {D : Ends} {w w1 : Wd} {H H1 : Hp} {r : SOut} (h : PostS X W D w H r) (e : Ext X.K w H w1 H1) : PostS X W D w1 H1 r := by
  cases r with
  | nx e' m => exact fun w' σ' H' g x hr => h w' σ' H' g (e.trans x) hr
  | rt d m => exact fun w' v H' g x hr => h w' v H' g (e.trans x) hr
  | bk e' m => exact fun w' σ' H' g x hr => h w' σ' H' g (e.trans x) hr
  | ct e' m => exact fun w' σ' H' g x hr => h w' σ' H' g (e.trans x) hr
  | exc c e' m => exact fun w' σ' H' C g x hr => h w' σ' H' C g (e.trans x) hr
def bndS {α : Type} (r : Option (Out α)) (e : Ev) (k : α → Mem → Option SOut) : Option SOut := match r with
  | none => none
  | some (.exc c m) => some (.exc c e m)
  | some (.ok a m) => k a m
section
variable {X : Cx} {W : WX} {D : Ends} {p : PEF} {pt : PTF} {pa : PAF} {σ : L2.St} {H : Hp} {w : Wd} {m : Mem} {e : Ev} {r : SOut}
theorem tM_bndS {k : Z.D → Mem → Option SOut} (g : Good X.K w H m) (ev : EvR X.K w H e σ) (h : bndS (p e m) e k = some r) (q : PostS X W D w H r)
    {R : V → Hp → Prop} (hk : ∀ d m1 w1 v H1, k d m1 = some r → Good X.K w1 H1 m1 → Ext X.K w H w1 H1 → Rep X.K w1 H1 d v → EvR X.K w1 H1 e σ → PostS X W D w1 H1 r → R v H1) : tM X W p σ H R := by
  cases hp : p e m with
  | none => rw [hp] at h; cases h
  | some o =>
    rw [hp] at h
    cases o with
    | ok d m1 => exact ⟨w, m, e, _, g, ev, hp, fun w1 v H1 g1 x1 r1 => hk d m1 w1 v H1 h g1 x1 r1 (ev.mono x1) (q.ext x1)⟩
    | exc c m1 =>
      have h : some (SOut.exc c e m1) = some r := h
      cases h
      exact ⟨w, m, e, _, g, ev, hp, fun w' H' C g' x' hc => q w' σ H' C g' x' (ev.mono x') hc⟩
theorem tT_bndS {k : Bool → Mem → Option SOut} (g : Good X.K w H m) (ev : EvR X.K w H e σ) (h : bndS (pt e m) e k = some r) (q : PostS X W D w H r)
    {R : Bool → Hp → Prop} (hk : ∀ d m1 w1 H1, k d m1 = some r → Good X.K w1 H1 m1 → Ext X.K w H w1 H1 → EvR X.K w1 H1 e σ → PostS X W D w1 H1 r → R d H1) : tT X W pt σ H R := by
  cases hp : pt e m with
  | none => rw [hp] at h; cases h
  | some o =>
    rw [hp] at h
    cases o with
    | ok d m1 => exact ⟨w, m, e, _, g, ev, hp, fun w1 H1 g1 x1 => hk d m1 w1 H1 h g1 x1 (ev.mono x1) (q.ext x1)⟩
    | exc c m1 =>
      have h : some (SOut.exc c e m1) = some r := h
      cases h
      exact ⟨w, m, e, _, g, ev, hp, fun w' H' C g' x' hc => q w' σ H' C g' x' (ev.mono x') hc⟩
theorem tA_bndS {k : List Z.D → Mem → Option SOut} (g : Good X.K w H m) (ev : EvR X.K w H e σ) (h : bndS (pa e m) e k = some r) (q : PostS X W D w H r)
    {R : List V → Hp → Prop} (hk : ∀ d m1 w1 v H1, k d m1 = some r → Good X.K w1 H1 m1 → Ext X.K w H w1 H1 → RepL X.K w1 H1 d v → EvR X.K w1 H1 e σ → PostS X W D w1 H1 r → R v H1) : tA X W pa σ H R := by
  cases hp : pa e m with
  | none => rw [hp] at h; cases h
  | some o =>
    rw [hp] at h
    cases o with
    | ok d m1 => exact ⟨w, m, e, _, g, ev, hp, fun w1 v H1 g1 x1 r1 => hk d m1 w1 v H1 h g1 x1 r1 (ev.mono x1) (q.ext x1)⟩
    | exc c m1 =>
      have h : some (SOut.exc c e m1) = some r := h
      cases h
      exact ⟨w, m, e, _, g, ev, hp, fun w' H' C g' x' hc => q w' σ H' C g' x' (ev.mono x') hc⟩
end

def sNop : PSF := fun e m => some (.nx e m)
def sBrk : PSF := fun e m => some (.bk e m)
def sCnt : PSF := fun e m => some (.ct e m)
def thenS (r : Option SOut) (k : Ev → Mem → Option SOut) : Option SOut := match r with
  | some (.nx e m) => k e m
  | r => r
def sSeq (p q : PSF) : PSF := fun e m => thenS (p e m) q
def sRet (p : PEF) : PSF := fun e m => bndS (p e m) e fun d m1 => some (.rt d m1)
def sExpr (p : PEF) : PSF := fun e m => bndS (p e m) e fun _ m1 => some (.nx e m1)
def sIf (c : PTF) (p q : PSF) : PSF := fun e m => bndS (c e m) e fun b m1 => if b = true then p e m1 else q e m1
def sSet (i : Nat) (p : PEF) : PSF := fun e m => bndS (p e m) e fun d m1 => some (.nx (e.set i (some d)) m1)
def sAug (i : Nat) (o : VK2) (p : PEF) : PSF := fun e m => match e[i]? with
  | some (some d) => bndS (p e m) e fun c m1 => match o d c m1 with
    | some r => some (.nx (e.set i (some r)) m1)
    | none => none
  | _ => none
section
variable {X : Cx} {W : WX} {st : Stmt} {rest a b : List Stmt} {p q : PSF} {pe : PEF} {pt : PTF} {e c : Expr} {pos : Pos}
theorem mss_nil : MSs X W [] sNop := PSs.imp pss_nil fun D σ H ⟨w, m, e, r, g, ev, h, q⟩ => by
  cases h
  exact q w σ H g Ext.refl ev
theorem ms_pass : MS X W (.Pass pos) sNop := PS.imp ps_pass fun D σ H ⟨w, m, e, r, g, ev, h, q⟩ => by
  cases h
  exact q w σ H g Ext.refl ev
theorem ms_break : MS X W (.Break pos) sBrk := PS.imp ps_break fun D σ H ⟨w, m, e, r, g, ev, h, q⟩ => by
  cases h
  exact q w σ H g Ext.refl ev
theorem ms_continue : MS X W (.Continue pos) sCnt := PS.imp ps_continue fun D σ H ⟨w, m, e, r, g, ev, h, q⟩ => by
  cases h
  exact q w σ H g Ext.refl ev
theorem ms_doc {x j} {pos pos' : Pos} : MS X W (.Expr (.Constant (.str x) j pos) pos') sNop := PS.imp ps_doc fun D σ H ⟨w, m, e, r, g, ev, h, q⟩ => by
  cases h
  exact q w σ H g Ext.refl ev
theorem mss_cons (h1 : MS X W st p) (h2 : MSs X W rest q) : MSs X W (st :: rest) (sSeq p q) := PSs.imp (pss_cons h1 h2) fun D σ H ⟨w, m, e, r, g, ev, h, qq⟩ => by
  show tS X W p { D with nx := tS X W q D } σ H
  unfold sSeq at h
  cases hp : p e m with
  | none => rw [hp] at h; cases h
  | some u =>
    rw [hp] at h
    cases u with
    | nx e1 m1 => exact ⟨w, m, e, _, g, ev, hp, fun w1 σ1 H1 g1 x1 ev1 => ⟨w1, m1, e1, r, g1, ev1, h, qq.ext x1⟩⟩
    | rt d m1 => cases h; exact ⟨w, m, e, _, g, ev, hp, qq⟩
    | bk e1 m1 => cases h; exact ⟨w, m, e, _, g, ev, hp, qq⟩
    | ct e1 m1 => cases h; exact ⟨w, m, e, _, g, ev, hp, qq⟩
    | exc c1 e1 m1 => cases h; exact ⟨w, m, e, _, g, ev, hp, qq⟩
theorem mss_one (h1 : MS X W st p) : MSs X W [st] p := pss_one h1
theorem ms_ret (he : ME X W e pe) : MS X W (.Return (some e) pos) (sRet pe) := PS.imp (ps_ret he) fun D σ H ⟨w, m, ev', r, g, ev, h, q⟩ => by
  refine tM_bndS g ev h q fun d1 m1 w1 v1 H1 h1 g1 x1 r1 ev1 q1 => ?_
  cases h1
  exact q1 w1 v1 H1 g1 Ext.refl r1
theorem ms_retN : MS X W (.Return none pos) (sRet (pC .non)) := PS.imp ps_retN fun D σ H ⟨w, m, ev', r, g, ev, h, q⟩ => by
  cases h
  exact q w .non H g Ext.refl (by simp only [Rep])
theorem ms_expr (he : ME X W e pe) (hs : swapsWith e none pos.line X.env = pure false := by rfl) : MS X W (.Expr e pos) (sExpr pe) := PS.imp (ps_expr he hs) fun D σ H ⟨w, m, ev', r, g, ev, h, q⟩ => by
  refine tM_bndS g ev h q fun d1 m1 w1 v1 H1 h1 g1 x1 r1 ev1 q1 => ?_
  cases h1
  exact q1 w1 σ H1 g1 Ext.refl ev1
theorem ms_if (hc : MT X W c pt) (ha : MSs X W a p) (hb : MSs X W b q) : MS X W (.If c a b pos) (sIf pt p q) := PS.imp (ps_if hc ha hb) fun D σ H ⟨w, m, ev', r, g, ev, h, qq⟩ => by
  refine tT_bndS g ev h qq fun k m1 w1 H1 h1 g1 x1 ev1 q1 => ?_
  split at h1
  · rename_i hk
    rw [if_pos hk]
    exact ⟨w1, m1, ev', r, g1, ev1, h1, q1⟩
  · rename_i hk
    rw [if_neg hk]
    exact ⟨w1, m1, ev', r, g1, ev1, h1, q1⟩
theorem ms_set {i : Nat} {x : Str} {pos' : Pos} (hN : X.N.Nodup) (hi : X.N[i]? = some x) (hx : Loc X.env.scope x) (he : ME X W e pe) (hs : swapsWith e (some (.Name x pos')) pos.line X.env = pure false := by rfl) (hf : X.fn x = true ∨ X.env.scope.names.lookup x = some .local := by first | exact .inl rfl | exact .inr rfl) :
    MS X W (.Assign [.Name x pos'] e pos) (sSet i pe) := PS.imp (ps_set hN hi hx he hs hf) fun D σ H ⟨w, m, ev', r, g, ev, h, qq⟩ => by
  refine tM_bndS g ev h qq fun d1 m1 w1 v1 H1 h1 g1 x1 r1 ev1 q1 => ?_
  cases h1
  exact q1 w1 _ H1 g1 Ext.refl (ev1.set r1)
theorem ms_aug {i : Nat} {x : Str} {op : Operator} {o : VK2} {pos' : Pos} (hN : X.N.Nodup) (hi : X.N[i]? = some x) (hx : Loc X.env.scope x) (he : ME X W e pe) (ho : OpR X (inplaceOp op) (r2of X o)) (hf : X.fn x = true ∨ X.env.scope.names.lookup x = some .local := by first | exact .inl rfl | exact .inr rfl) :
    MS X W (.AugAssign (.Name x pos') op e pos) (sAug i o pe) := PS.imp (ps_aug hN hi hx he (ti := fun x y H Q => r2of X o x y H Q) ho hf) fun D σ H ⟨w, m, ev', r, g, ev, h, qq⟩ => by
  unfold sAug at h
  split at h
  · rename_i d hd
    obtain ⟨v, h1, h2⟩ := ev.2 i d hd
    refine ⟨v, h1, tM_bndS g ev h qq fun d1 m1 w1 v1 H1 h1 g1 x1 r1 ev1 q1 => ?_⟩
    split at h1
    · rename_i d' hd'
      cases h1
      exact ⟨w1, m1, d, d1, d', g1, h2.mono x1, r1, hd', fun w2 v2 H2 g2 x2 r2 => q1 w2 _ H2 g2 x2 ((ev1.mono x2).set r2)⟩
    · cases h1
  · cases h
end

/-! ### targets -/
abbrev PGF := D → Ev → Mem → Option (Out Ev)
def PostG (X : Cx) (W : WX) (w : Wd) (H : Hp) (Q : L2.St → Hp → Prop) : Out Ev → Prop
  | .ok e m => ∀ w' σ' H', Good X.K w' H' m → Ext X.K w H w' H' → EvR X.K w' H' e σ' → Q σ' H'
  | .exc _ _ => False
def tG (X : Cx) (W : WX) (p : PGF) : TG := fun v σ H Q => ∃ w m e d r, Good X.K w H m ∧ EvR X.K w H e σ ∧ Rep X.K w H d v ∧ p d e m = some r ∧ PostG X W w H Q r
abbrev MG (X : Cx) (W : WX) (tg : Expr) (p : PGF) : Prop := PG X tg (tG X W p)
theorem PG.imp {X : Cx} {e : Expr} {t t' : TG} (h : PG X e t) (i : ∀ v σ H Q, t' v σ H Q → t v σ H Q) : PG X e t' := ⟨fun pins s σ H v u Q I r q => h.run pins s σ H v u Q I r (i _ _ _ _ q)⟩
end Z

set_option maxRecDepth 100000
set_option maxHeartbeats 4000000
set_option autoImplicit false
namespace Z
open PySem PySem.Spec PyProof.Rows L2

/-! ### targets -/
abbrev PGsF := List D → Ev → Mem → Option (Out Ev)
def tGs (X : Cx) (W : WX) (p : PGsF) : TGs := fun vs σ H Q => ∃ w m e ds r, Good X.K w H m ∧ EvR X.K w H e σ ∧ RepL X.K w H ds vs ∧ p ds e m = some r ∧ PostG X W w H Q r
abbrev MGs (X : Cx) (W : WX) (ts : List Expr) (p : PGsF) : Prop := PGs X ts (tGs X W p)
theorem PGs.imp {X : Cx} {e : List Expr} {t t' : TGs} (h : PGs X e t) (i : ∀ v σ H Q, t' v σ H Q → t v σ H Q) : PGs X e t' := ⟨fun pins s σ H v u Q I r q => h.run pins s σ H v u Q I r (i _ _ _ _ q)⟩
theorem PostG.ext {X : Cx} {W : WX} {w w1 : Wd} {H H1 : Hp} {Q : L2.St → Hp → Prop} {r : Out Ev} (h : PostG X W w H Q r) (e : Ext X.K w H w1 H1) : PostG X W w1 H1 Q r := by
  cases r with
  | ok d m => exact fun w' σ' H' g x hr => h w' σ' H' g (e.trans x) hr
  | exc c m => exact h
def gN (i : Nat) : PGF := fun d e m => some (.ok (e.set i (some d)) m)
def gsNil : PGsF := fun ds e m => match ds with
  | [] => some (.ok e m)
  | _ => none
def gsCons (g : PGF) (r : PGsF) : PGsF := fun ds e m => match ds with
  | d :: ds => match g d e m with
    | some (.ok e1 m1) => r ds e1 m1
    | _ => none
  | [] => none
def gTp (n : Nat) (g : PGsF) : PGF := fun d e m => match d with
  | .tup ds => if ds.length = n then g ds e m else none
  | _ => none
def gLs (n : Nat) (g : PGsF) : PGF := fun d e m => match asL m d with
  | some ds => if ds.length = n then g ds e m else none
  | none => none
section
variable {X : Cx} {W : WX} {pos : Pos}
theorem mg_name {i : Nat} {x : Str} (hN : X.N.Nodup) (hi : X.N[i]? = some x) (hx : Loc X.env.scope x) (hf : X.fn x = true ∨ X.env.scope.names.lookup x = some .local := by first | exact .inl rfl | exact .inr rfl) : MG X W (.Name x pos) (gN i) :=
  PG.imp (pg_name hN hi hx hf) fun v σ H Q ⟨w, m, e, d, r, g, ev, rd, h, q⟩ => by
    cases h
    exact q w _ H g Ext.refl (ev.set rd)
theorem mgs_nil : MGs X W [] gsNil := PGs.imp pgs_nil fun v σ H Q ⟨w, m, e, ds, r, g, ev, rd, h, q⟩ => by
  unfold gsNil at h
  split at h
  · cases h
    exact ⟨RepL.nil_iff.mp rd, q w σ H g Ext.refl ev⟩
  · cases h
theorem mgs_cons {e : Expr} {es : List Expr} {g : PGF} {u : PGsF} (h1 : MG X W e g) (h2 : MGs X W es u) (hs : (assignEach (e :: es) X.env).map (·.2) = assign e X.env :: (assignEach es X.env).map (·.2) := by rfl) : MGs X W (e :: es) (gsCons g u) :=
  PGs.imp (pgs_cons h1 h2 hs) fun vs σ H Q ⟨w, m, e, ds, r, g, ev, rd, h, q⟩ => by
    unfold gsCons at h
    split at h
    · rename_i d ds
      obtain ⟨v, r', rfl, r1, r2⟩ := RepL.cons_iff.mp rd
      split at h
      · rename_i e1 m1 hg
        exact ⟨v, r', rfl, w, m, e, d, _, g, ev, r1, hg, fun w1 σ1 H1 g1 x1 ev1 => ⟨w1, m1, e1, ds, r, g1, ev1, r2.mono x1, h, q.ext x1⟩⟩
      · cases h
    · cases h
theorem mg_tup {es : List Expr} {k : Nat} {t : PGsF} {n : Nat} (hc : X.calm = true) (h : MGs X W es t) (hn : (assignEach es X.env).length = n := by rfl) (hst : (assignEach es X.env).findIdx? (·.1) = none := by rfl) : MG X W (.Tuple es k pos) (gTp n t) :=
  PG.imp (pg_tup hc h hn hst) fun v σ H Q ⟨w, m, e, d, r, g, ev, rd, h, q⟩ => by
    unfold gTp at h
    split at h
    · rename_i ds
      split at h
      · rename_i hl
        obtain ⟨a, xs, rfl, ha, hr⟩ := asT_rep rd rfl
        exact ⟨a, xs, rfl, ha, by rw [hr.len]; exact hl, w, m, e, ds, r, g, ev, hr, h, q⟩
      · cases h
    · cases h
theorem mg_lst {es : List Expr} {k : Nat} {t : PGsF} {n : Nat} (hc : X.calm = true) (h : MGs X W es t) (hn : (assignEach es X.env).length = n := by rfl) (hst : (assignEach es X.env).findIdx? (·.1) = none := by rfl) : MG X W (.Tuple es k pos) (gLs n t) :=
  PG.imp (pg_unl hc h hn hst) fun v σ H Q ⟨w, m, e, d, r, g, ev, rd, h, q⟩ => by
    unfold gLs at h
    split at h
    · rename_i ds hd
      split at h
      · rename_i hl
        obtain ⟨a, xs, rfl, ha, hr⟩ := asL_rep g rd hd
        exact ⟨a, xs, rfl, ha, by rw [hr.len]; exact hl, w, m, e, ds, r, g, ev, hr, h, q⟩
      · cases h
    · cases h
end
/-- target = value -/
def sAsg (g : PGF) (p : PEF) : PSF := fun e m => bndS (p e m) e fun d m1 => match g d e m1 with
  | some (.ok e1 m2) => some (.nx e1 m2)
  | _ => none
/-- a, b = x, y: the pair is not made -/
def setAll : List Nat → List D → Ev → Ev
  | i :: is, d :: ds, e => setAll is ds (e.set i (some d))
  | _, _, e => e
def sPar (is : List Nat) (p : PAF) : PSF := fun e m => bndS (p e m) e fun ds m1 => if ds.length = is.length then some (.nx (setAll is ds e) m1) else none
/-- o[i] = x -/
def putAt (a b d : D) (m : Mem) : Option Mem := match a, b with
  | .loc i, .int k => match m[i]? with
    | some (.lst l) => match ixN l.length k with
      | some j => some (m.set i (.lst (l.set j d)))
      | none => none
    | _ => none
  | _, _ => none
def sPut (po pi p : PEF) : PSF := fun e m => bndS (p e m) e fun d m1 => bndS (po e m1) e fun a m2 => bndS (pi e m2) e fun b m3 => match putAt a b d m3 with
  | some m4 => some (.nx e m4)
  | none => none
/-- o[i] op= x -/
def getAt (a b : D) (m : Mem) : Option D := match a, b with
  | .loc i, .int k => match asH m (.loc i) with
    | some l => atI l k
    | none => none
  | _, _ => none
def sPutAug (o : VK2) (po pi p : PEF) : PSF := fun e m => bndS (po e m) e fun a m1 => bndS (pi e m1) e fun b m2 => match getAt a b m2 with
  | some c => bndS (p e m2) e fun d m3 => match o c d m3 with
    | some r => match putAt a b r m3 with
      | some m4 => some (.nx e m4)
      | none => none
    | none => none
  | none => none
section
variable {X : Cx} {W : WX} {pos pos' : Pos} {tg e o i : Expr} {g : PGF} {p po pi : PEF}
theorem ms_asg (he : ME X W e p) (hg : MG X W tg g) (hs : swapsWithSole [tg] e pos.line X.env = pure false := by rfl) (hw : swappedStores [tg] e X.env = pure none := by rfl)
    (h1 : (assignEach [tg] X.env).map (·.2) = [assign tg X.env] := by rfl) : MS X W (.Assign [tg] e pos) (sAsg g p) := PS.imp (ps_asg he hg hs hw h1) fun D σ H ⟨w, m, ev', r, g, ev, h, qq⟩ => by
  refine tM_bndS g ev h qq fun d1 m1 w1 v1 H1 h1 g1 x1 r1 ev1 q1 => ?_
  split at h1
  · rename_i e1 m2 hg
    cases h1
    exact ⟨w1, m1, ev', d1, _, g1, ev1, r1, hg, fun w2 σ2 H2 g2 x2 ev2 => q1 w2 σ2 H2 g2 x2 ev2⟩
  · cases h1
theorem ms_par2 {i j : Nat} {x y : Str} {a b : Expr} {ta : PAF} {px py pt : Pos} {kt k2 pt2} (hc : X.calm = true) (hN : X.N.Nodup) (hi : X.N[i]? = some x) (hj : X.N[j]? = some y) (hij : i ≠ j)
    (hx : X.env.scope.names.lookup x = some .local) (hy : X.env.scope.names.lookup y = some .local) (ha : MA X W [a, b] ta)
    (hw : swappedStores [.Tuple [.Name x px, .Name y py] kt pt] (.Tuple [a, b] k2 pt2) X.env = pure (some [x, y]))
    (hs : swapsWithSole [.Tuple [.Name x px, .Name y py] kt pt] (.Tuple [a, b] k2 pt2) pos.line X.env = pure false := by rfl) :
    MS X W (.Assign [.Tuple [.Name x px, .Name y py] kt pt] (.Tuple [a, b] k2 pt2) pos) (sPar [i, j] ta) := PS.imp (ps_par hc hN hi hj hij hx hy ha hw hs) fun D σ H ⟨w, m, ev', r, g, ev, h, qq⟩ => by
  refine tA_bndS g ev h qq fun d1 m1 w1 v1 H1 h1 g1 x1 r1 ev1 q1 => ?_
  split at h1
  · rename_i hl
    cases h1
    match d1, hl, r1, q1 with
    | [a, b], _, r1, q1 =>
      obtain ⟨v, u, rfl, ra, rb⟩ := repL2 r1
      exact ⟨v, u, rfl, q1 w1 _ H1 g1 Ext.refl ((ev1.set ra).set rb)⟩
  · cases h1
theorem ms_par3 {i j l : Nat} {x y z : Str} {a b c : Expr} {ta : PAF} {px py pz pt : Pos} {kt k2 pt2} (hc : X.calm = true) (hN : X.N.Nodup) (hi : X.N[i]? = some x) (hj : X.N[j]? = some y) (hl : X.N[l]? = some z) (hij : i ≠ j) (hil : i ≠ l) (hjl : j ≠ l)
    (hx : X.env.scope.names.lookup x = some .local) (hy : X.env.scope.names.lookup y = some .local) (hz : X.env.scope.names.lookup z = some .local) (ha : MA X W [a, b, c] ta)
    (hw : swappedStores [.Tuple [.Name x px, .Name y py, .Name z pz] kt pt] (.Tuple [a, b, c] k2 pt2) X.env = pure (some [x, y, z]))
    (hs : swapsWithSole [.Tuple [.Name x px, .Name y py, .Name z pz] kt pt] (.Tuple [a, b, c] k2 pt2) pos.line X.env = pure false := by rfl) :
    MS X W (.Assign [.Tuple [.Name x px, .Name y py, .Name z pz] kt pt] (.Tuple [a, b, c] k2 pt2) pos) (sPar [i, j, l] ta) := PS.imp (ps_par3 hc hN hi hj hl hij hil hjl hx hy hz ha hw hs) fun D σ H ⟨w, m, ev', r, g, ev, h, qq⟩ => by
  refine tA_bndS g ev h qq fun d1 m1 w1 v1 H1 h1 g1 x1 r1 ev1 q1 => ?_
  split at h1
  · rename_i hl
    cases h1
    match d1, hl, r1, q1 with
    | [a, b, c], _, r1, q1 =>
      obtain ⟨v, r', rfl, ra, r2⟩ := RepL.cons_iff.mp r1
      obtain ⟨u, t, rfl, rb, rc⟩ := repL2 r2
      exact ⟨v, u, t, rfl, q1 w1 _ H1 g1 Ext.refl (((ev1.set ra).set rb).set rc)⟩
  · cases h1
theorem put_rep {K : PySem.W.Frag} {w : Wd} {H : Hp} {m m' : Mem} {a b d : D} {va vb vd : V} (g : Good K w H m) (ra : Rep K w H a va) (rb : Rep K w H b vb) (rd : Rep K w H d vd) (h : putAt a b d m = some m') :
    ∃ p xs k j, va = .ref p ∧ vb = .int k ∧ H p = some (.lst xs) ∧ ixN xs.length k = some j ∧ Good K w (upd H p (.lst (xs.set j vd))) m' ∧ Ext K w H w (upd H p (.lst (xs.set j vd))) := by
  unfold putAt at h
  split at h
  · rename_i i k
    split at h
    · rename_i l hm
      split at h
      · rename_i j hj
        cases h
        obtain ⟨a, xs, rfl, ha, hx, hl⟩ := loc_at g ra hm
        obtain rfl := rep_int rb
        exact ⟨a, xs, k, j, rfl, rfl, hx, by rw [hl.len]; exact hj, g.write hm ha (hl.set rd j), Ext.write g hm ha⟩
      · cases h
    · cases h
  · cases h
theorem ms_put (he : ME X W e p) (ho : ME X W o po) (hi : ME X W i pi)
    (ha : ∀ v, assign (.Subscript o i pos') X.env v = (do
      let ov ← holding [v] (eval o X.env)
      let iv ← holding [v, ov] (eval i X.env)
      standAt pos'
      holding [v, ov, iv] (setItem ov iv v)
      release [v, ov, iv] []) := by intro _; rfl)
    (hs : swapsWithSole [.Subscript o i pos'] e pos.line X.env = pure false := by rfl) (hw : swappedStores [.Subscript o i pos'] e X.env = pure none := by rfl)
    (h1 : (assignEach [.Subscript o i pos'] X.env).map (·.2) = [assign (.Subscript o i pos') X.env] := by rfl) : MS X W (.Assign [.Subscript o i pos'] e pos) (sPut po pi p) := PS.imp (ps_asg he (pg_sub ho hi set_list ha) hs hw h1) fun D σ H ⟨w, m, ev', r, g, ev, h, qq⟩ => by
  refine tM_bndS g ev h qq fun d1 m1 w1 v1 H1 h1 g1 x1 r1 ev1 q1 => ?_
  refine tM_bndS g1 ev1 h1 q1 fun d2 m2 w2 v2 H2 h2 g2 x2 r2 ev2 q2 => ?_
  refine tM_bndS g2 ev2 h2 q2 fun d3 m3 w3 v3 H3 h3 g3 x3 r3 ev3 q3 => ?_
  split at h3
  · rename_i m4 hm
    cases h3
    obtain ⟨p, xs, k, j, e1, e2, e3, e4, g4, x4⟩ := put_rep g3 (r2.mono x3) r3 ((r1.mono x2).mono x3) hm
    exact ⟨p, xs, k, j, e1, e2, e3, e4, q3 w3 σ _ g4 x4 (ev3.mono x4)⟩
  · cases h3
theorem get_list : PGet X (rIxL X.K) := by
  intro pins s σ H x y v u Q I rx ry h
  obtain ⟨p, xs, i, z, rfl, rfl, hq, he, q⟩ := h
  cases rx
  obtain ⟨t, rfl⟩ := ry
  obtain ⟨its, r, pl, hz⟩ := I.list hq
  obtain ⟨j, h1, h2, h3, h4, h5⟩ := atI_get he
  obtain ⟨w, ew, rw'⟩ := r.get h2
  have hl := r.length
  have hn := line63
  have fin : EP X pins σ Q w s := ⟨z, H, I, rw', q⟩
  by_cases h0 : 0 ≤ i
  · have hj : i.toNat = j := by
      rw [seqIndex_of h0 h5] at h1
      exact Option.some.inj h1
    exact wpAny_getItem_list pl.isList h0 (by omega) (by rw [hj]; simpa using ew) fin
  · have hj : (i + (its.toArray.size : Int)).toNat = j := by
      rw [seqIndex_neg (by omega) h4] at h1
      rw [List.size_toArray, ← hl]
      exact Option.some.inj h1
    exact wpAny_getItem_list_neg pl.isList (by omega) (by rw [List.size_toArray] <;> omega) (by omega) (by rw [hj]; simpa using ew) fin
theorem ms_putAug {op : Operator} {oo : VK2} (he : ME X W e p) (ho : ME X W o po) (hi : ME X W i pi) (hop : OpR X (inplaceOp op) (r2of X oo))
    (ha : ∀ ov iv new, augStore i ov iv new = (do holding [new, ov, iv] (setItem ov iv new); release [new, ov, iv] []; pure .next) := by intros; rfl) : MS X W (.AugAssign (.Subscript o i pos') op e pos) (sPutAug oo po pi p) :=
  PS.imp (ps_augS ho hi get_list he (tip := fun x y H Q => r2of X oo x y H Q) hop set_list ha) fun D σ H ⟨w, m, ev', r, g, ev, h, qq⟩ => by
    refine tM_bndS g ev h qq fun d1 m1 w1 v1 H1 h1 g1 x1 r1 ev1 q1 => ?_
    refine tM_bndS g1 ev1 h1 q1 fun d2 m2 w2 v2 H2 h2 g2 x2 r2 ev2 q2 => ?_
    split at h2
    · rename_i c hc
      have hidx : ∃ (pp : Addr) (xs : List V) (i : Int) (z : V), v1 = .ref pp ∧ v2 = .int i ∧ SqL X.K H2 pp xs ∧ atI xs i = some z ∧ Rep X.K w2 H2 c z := by
        unfold getAt at hc
        split at hc
        · split at hc
          · rename_i l hl
            obtain ⟨a, xs, rfl, hx, hr⟩ := asH_rep g2 (r1.mono x2) hl
            obtain rfl := rep_int r2
            obtain ⟨z, h1, h2⟩ := atI_rep hr hc
            exact ⟨a, xs, _, z, rfl, rfl, SqL.of hx, h1, h2⟩
          · cases hc
        · cases hc
      obtain ⟨pp, xs, i, z, rfl, rfl, hq, hz, rz⟩ := hidx
      refine ⟨pp, xs, i, z, rfl, rfl, hq, hz, ?_⟩
      refine tM_bndS g2 ev2 h2 q2 fun d3 m3 w3 v3 H3 h3 g3 x3 r3 ev3 q3 => ?_
      split at h3
      · rename_i r' hr'
        split at h3
        · rename_i m4 hm4
          cases h3
          refine ⟨w3, m3, c, d3, r', g3, rz.mono x3, r3, hr', fun w4 v4 H4 g4 x4 r4 => ?_⟩
          obtain ⟨p', xs', k', j', e1, e2, e3, e4, g5, x5⟩ := put_rep g4 (((r1.mono x2).mono x3).mono x4) ((r2.mono x3).mono x4) r4 hm4
          exact ⟨p', xs', k', j', e1, e2, e3, e4, q3 w4 σ _ g5 (x4.trans x5) ((ev3.mono x4).mono x5)⟩
        · cases h3
      · cases h3
    · cases h2
end
end Z

set_option maxRecDepth 100000
set_option maxHeartbeats 4000000
set_option autoImplicit false
namespace Z
open PySem PySem.Spec PyProof.Rows L2

/-! ### what a for walks -/
structure Yields (K : PySem.W.Frag) (J : It) (w : Wd) (H : Hp) (ds : List D) : Prop where
  go : ∀ (i : Nat) w' H', Ext K w H w' H' → i < ds.length → J.go i H'
  yld : ∀ (i : Nat) x w' H' H'' m', Good K w' H' m' → Ext K w H w' H' → J.yld i H' x H'' → ∀ d, ds[i]? = some d → ∃ w'', Good K w'' H'' m' ∧ Ext K w' H' w'' H'' ∧ Rep K w'' H'' d x
  stop : ∀ w' H', Ext K w H w' H' → J.stop ds.length H'
abbrev PIF := Ev → Mem → Option (Out (List D))
def PostI (X : Cx) (W : WX) (σ : L2.St) (w : Wd) (H : Hp) (R : It → Hp → Prop) : Out (List D) → Prop
  | .ok ds m => ∀ w' H' J, Good X.K w' H' m → Ext X.K w H w' H' → Yields X.K J w' H' ds → R J H'
  | .exc c m => ExW X W w H σ c m
def tI (X : Cx) (W : WX) (p : PIF) : TI := fun σ H R => ∃ w m e r, Good X.K w H m ∧ EvR X.K w H e σ ∧ p e m = some r ∧ PostI X W σ w H R r
abbrev MI (X : Cx) (W : WX) (tg iter : Expr) (p : PIF) : Prop := PI X tg iter (tI X W p)
theorem PI.imp {X : Cx} {tg e : Expr} {t t' : TI} (h : PI X tg e t) (i : ∀ σ H R, t' σ H R → t σ H R) : PI X tg e t' := ⟨fun pins s σ H R I q => h.run pins s σ H R I (i _ _ _ q)⟩
theorem PostI.ext {X : Cx} {W : WX} {w w1 : Wd} {H H1 : Hp} {σ : L2.St} {Q : It → Hp → Prop} {r : Out (List D)} (h : PostI X W σ w H Q r) (e : Ext X.K w H w1 H1) : PostI X W σ w1 H1 Q r := by
  cases r with
  | ok d m => exact fun w' H' J g x hy => h w' H' J g (e.trans x) hy
  | exc c m => exact ExW.ext h e
def itemsOf (d : D) (m : Mem) : Option (Out (List D)) := match d with
  | .tup l => some (.ok l m)
  | .lst l => some (.ok l m)
  | .ro l => some (.ok l m)
  | .str z => some (.ok (z.cps.toList.map fun c => D.str ⟨#[c]⟩) m)
  | .loc i => match m[i]? with
    | some (.lst l) => some (.ok l (m.set i (.frz l)))
    | some (.frz l) => some (.ok l m)
    | none => none
  | _ => none
def iSeq (p : PEF) : PIF := fun e m => bnd (p e m) itemsOf
def intR (lo c : Int) (n : Nat) : List D := (List.range n).map fun (k : Nat) => D.int (lo + k * c)
def in62 (i : Int) : Bool := decide (-(2 ^ 62) ≤ i) && decide (i < 2 ^ 62)
def iR1 (p : PAF) : PIF := fun e m => bnd (p e m) fun ds m1 => match ds with
  | [.int j] => if in62 j then some (.ok (intR 0 1 j.toNat) m1) else none
  | _ => none
def iR2 (p : PAF) : PIF := fun e m => bnd (p e m) fun ds m1 => match ds with
  | [.int i, .int j] => if in62 i && in62 j then some (.ok (intR i 1 (j - i).toNat) m1) else none
  | _ => none
def iR3 (p : PAF) : PIF := fun e m => bnd (p e m) fun ds m1 => match ds with
  | [.int i, .int j, .int c] => if c = -1 then (if in62 i && in62 j then some (.ok (intR i (-1) (i - j).toNat) m1) else none)
    else if decide (c ≠ 0) && decide (c.natAbs < 1073741824) && Builtin.Range.small i j c && decide (0 ≤ Builtin.Range.rangeSize i j c) then some (.ok (intR i c (Builtin.Range.rangeSize i j c).toNat) m1) else none
  | _ => none
def iZip (p : PAF) : PIF := fun e m => bnd (p e m) fun ds m1 => match ds with
  | [.tup l, .tup r] => some (.ok ((l.zip r).map fun x => D.tup [x.1, x.2]) m1)
  | [.lst l, .lst r] => some (.ok ((l.zip r).map fun x => D.tup [x.1, x.2]) m1)
  | _ => none
section
variable {K : PySem.W.Frag} {w : Wd} {H : Hp} {m : Mem}
theorem yl_list {a : Addr} {xs : List V} {ds : List D} (hs : ∀ w' H', Ext K w H w' H' → SqL K H' a xs) (hu : ∀ H' ys, SqL K H' a xs → SqL K H' a ys → (∀ zs : List V, SqL K H' a zs → zs = zs) → True) (r : RepL K w H ds xs) : Yields K (Itl K a) w H ds where
  go := fun i w' H' x hi => by
    obtain ⟨v, hv, _⟩ := r.get (List.getElem?_eq_getElem hi)
    exact ⟨xs, v, hs w' H' x, hv⟩
  yld := fun i x w' H' H'' m' g xt hy d hd => by
    obtain ⟨rfl, hf⟩ := hy
    obtain ⟨v, hv, rv⟩ := r.get hd
    have e := hf xs (hs w' H'' xt)
    rw [hv] at e
    cases e
    exact ⟨w', g, Ext.refl, rv.mono xt⟩
  stop := fun w' H' x => ⟨xs, hs w' H' x, by rw [r.len]; exact Nat.le_refl _⟩
theorem yl_tup {a : Addr} {xs : List V} {ds : List D} (hs : SqT K H a xs) (r : RepL K w H ds xs) : Yields K (Itt K a) w H ds where
  go := fun i w' H' x hi => by
    obtain ⟨v, hv, _⟩ := r.get (List.getElem?_eq_getElem hi)
    exact ⟨xs, v, x.tup _ _ hs, hv⟩
  yld := fun i x w' H' H'' m' g xt hy d hd => by
    obtain ⟨rfl, hf⟩ := hy
    obtain ⟨v, hv, rv⟩ := r.get hd
    have e := hf xs (xt.tup _ _ hs)
    rw [hv] at e
    cases e
    exact ⟨w', g, Ext.refl, rv.mono xt⟩
  stop := fun w' H' x => ⟨xs, x.tup _ _ hs, by rw [r.len]; exact Nat.le_refl _⟩
theorem ints_get {lo c : Int} {n i : Nat} {d : D} (h : (intR lo c n)[i]? = some d) : i < n ∧ d = .int (lo + i * c) := by
  unfold intR at h
  rw [List.getElem?_map] at h
  by_cases hi : i < n
  · rw [List.getElem?_range hi] at h
    cases h
    exact ⟨hi, rfl⟩
  · rw [List.getElem?_eq_none (by simpa using hi)] at h
    cases h
theorem ints_len {lo c : Int} {n : Nat} : (intR lo c n).length = n := by simp [intR]
theorem yl_rng {lo : Int} {n : Nat} : Yields K (Itr lo n) w H (intR lo 1 n) where
  go := fun i w' H' x hi => by rw [ints_len] at hi; exact hi
  yld := fun i x w' H' H'' m' g xt hy d hd => by
    obtain ⟨rfl, rfl⟩ := hy
    obtain ⟨hi, rfl⟩ := ints_get hd
    exact ⟨w', g, Ext.refl, by simp only [Rep, Int.mul_one]⟩
  stop := fun w' H' x => by rw [ints_len]; exact Nat.le_refl n
theorem yl_rngC {lo c : Int} {n : Nat} : Yields K (Itc lo c n) w H (intR lo c n) where
  go := fun i w' H' x hi => by rw [ints_len] at hi; exact hi
  yld := fun i x w' H' H'' m' g xt hy d hd => by
    obtain ⟨rfl, rfl⟩ := hy
    obtain ⟨hi, rfl⟩ := ints_get hd
    exact ⟨w', g, Ext.refl, by simp only [Rep]⟩
  stop := fun w' H' x => by rw [ints_len]; exact Nat.le_refl n
theorem yl_str {z : Str} : Yields K (Its z) w H (z.cps.toList.map fun c => D.str ⟨#[c]⟩) where
  go := fun i w' H' x hi => by
    rw [List.length_map, Array.length_toList] at hi
    exact hi
  yld := fun i x w' H' H'' m' g xt hy d hd => by
    obtain ⟨rfl, c, hc, rfl⟩ := hy
    rw [List.getElem?_map, Array.getElem?_toList, hc] at hd
    cases hd
    exact ⟨w', g, Ext.refl, by simp only [Rep]⟩
  stop := fun w' H' x => by
    rw [List.length_map, Array.length_toList]
    exact Nat.le_refl z.cps.size
theorem zip_len (l r : List D) : ((l.zip r).map fun x => D.tup [x.1, x.2]).length = min l.length r.length := by simp
theorem zip_get {l r : List D} {i : Nat} {d : D} (h : ((l.zip r).map fun x => D.tup [x.1, x.2])[i]? = some d) : ∃ x y, l[i]? = some x ∧ r[i]? = some y ∧ d = .tup [x, y] := by
  rw [List.getElem?_map] at h
  cases e : (l.zip r)[i]? with
  | none => rw [e] at h; cases h
  | some p =>
    rw [e] at h
    cases h
    rw [List.getElem?_zip_eq_some] at e
    exact ⟨p.1, p.2, e.1, e.2, rfl⟩
theorem yl_zipT {a b : Addr} {xs ys : List V} {l r : List D} (ha : SqT K H a xs) (hb : SqT K H b ys) (rl : RepL K w H l xs) (rr : RepL K w H r ys) : Yields K (RZ.ItzT K a b) w H ((l.zip r).map fun x => D.tup [x.1, x.2]) where
  go := fun i w' H' x hi => by
    rw [zip_len] at hi
    obtain ⟨v, hv, _⟩ := rl.get (List.getElem?_eq_getElem (show i < l.length by omega))
    obtain ⟨u, hu, _⟩ := rr.get (List.getElem?_eq_getElem (show i < r.length by omega))
    exact ⟨xs, ys, v, u, x.tup _ _ ha, x.tup _ _ hb, hv, hu⟩
  yld := fun i x w' H' H'' m' g xt hy d hd => by
    obtain ⟨T, x1, y1, rfl, hT, rfl, f1, f2⟩ := hy
    obtain ⟨d1, d2, e1, e2, rfl⟩ := zip_get hd
    obtain ⟨v, hv, rv⟩ := rl.get e1
    obtain ⟨u, hu, ru⟩ := rr.get e2
    have z1 := f1 xs (xt.tup _ _ ha)
    have z2 := f2 ys (xt.tup _ _ hb)
    rw [hv] at z1
    rw [hu] at z2
    cases z1
    cases z2
    exact ⟨w', g.new hT, Ext.new g hT, new_tup g hT (RepL.cons (rv.mono xt) (RepL.cons (ru.mono xt) RepL.nil))⟩
  stop := fun w' H' x => ⟨xs, ys, x.tup _ _ ha, x.tup _ _ hb, by rw [zip_len, rl.len, rr.len]; omega⟩
theorem yl_zipL {a b : Addr} {xs ys : List V} {l r : List D} (fa : w.fz a) (fb : w.fz b) (ha : H a = some (.lst xs)) (hb : H b = some (.lst ys)) (rl : RepL K w H l xs) (rr : RepL K w H r ys) : Yields K (Itz K a b) w H ((l.zip r).map fun x => D.tup [x.1, x.2]) where
  go := fun i w' H' x hi => by
    rw [zip_len] at hi
    obtain ⟨v, hv, _⟩ := rl.get (List.getElem?_eq_getElem (show i < l.length by omega))
    obtain ⟨u, hu, _⟩ := rr.get (List.getElem?_eq_getElem (show i < r.length by omega))
    exact ⟨xs, ys, v, u, SqL.of (x.lst _ _ fa ha), SqL.of (x.lst _ _ fb hb), hv, hu⟩
  yld := fun i x w' H' H'' m' g xt hy d hd => by
    obtain ⟨T, x1, y1, rfl, hT, rfl, f1, f2⟩ := hy
    obtain ⟨d1, d2, e1, e2, rfl⟩ := zip_get hd
    obtain ⟨v, hv, rv⟩ := rl.get e1
    obtain ⟨u, hu, ru⟩ := rr.get e2
    have z1 := f1 xs (SqL.of (xt.lst _ _ fa ha))
    have z2 := f2 ys (SqL.of (xt.lst _ _ fb hb))
    rw [hv] at z1
    rw [hu] at z2
    cases z1
    cases z2
    exact ⟨w', g.new hT, Ext.new g hT, new_tup g hT (RepL.cons (rv.mono xt) (RepL.cons (ru.mono xt) RepL.nil))⟩
  stop := fun w' H' x => ⟨xs, ys, SqL.of (x.lst _ _ fa ha), SqL.of (x.lst _ _ fb hb), by rw [zip_len, rl.len, rr.len]; omega⟩
end
section
variable {X : Cx} {W : WX} {tg l : Expr} {p : PEF} {pa : PAF}
theorem tM_bndI {k : D → Mem → Option (Out (List D))} {σ : L2.St} {H : Hp} {R : It → Hp → Prop} {w : Wd} {m : Mem} {e : Ev} {r : Out (List D)} (g : Good X.K w H m) (ev : EvR X.K w H e σ) (h : bnd (p e m) k = some r) (q : PostI X W σ w H R r)
    {S : V → Hp → Prop} (hk : ∀ d m1 w1 v H1, p e m = some (.ok d m1) → k d m1 = some r → Good X.K w1 H1 m1 → Ext X.K w H w1 H1 → Rep X.K w1 H1 d v → PostI X W σ w1 H1 R r → S v H1) : tM X W p σ H S := by
  cases hp : p e m with
  | none => rw [hp] at h; cases h
  | some o =>
    rw [hp] at h
    cases o with
    | ok d m1 => exact ⟨w, m, e, _, g, ev, hp, fun w1 v H1 g1 x1 r1 => hk d m1 w1 v H1 hp h g1 x1 r1 (q.ext x1)⟩
    | exc c m1 =>
      have h : some (Out.exc c m1) = some r := h
      cases h
      exact ⟨w, m, e, _, g, ev, hp, q⟩
theorem mi_seq (hl : ME X W l p) : MI X W tg l (iSeq p) := by
  refine ⟨fun pins s σ H R I ⟨w, m, e, r, g, ev, h, q⟩ => ?_⟩
  -- which kind
  cases hp : p e m with
  | none => unfold iSeq at h; rw [hp] at h; cases h
  | some o =>
    cases o with
    | exc c m1 =>
      unfold iSeq at h
      rw [hp] at h
      cases h
      exact (pi_list hl).run pins s σ H R I ⟨w, m, e, _, g, ev, hp, q⟩
    | ok d m1 =>
      cases d with
      | tup ds =>
        refine (pi_tup hl).run pins s σ H R I (tM_bndI g ev h q fun d2 m2 w1 v1 H1 e1 h1 g1 x1 r1 q1 => ?_)
        rw [hp] at e1
        cases e1
        cases h1
        obtain ⟨a, xs, rfl, ha, hr⟩ := asT_rep r1 rfl
        exact ⟨a, rfl, ⟨xs, ha⟩, q1 w1 H1 _ g1 Ext.refl (yl_tup ha hr)⟩
      | lst ds =>
        refine (pi_list hl).run pins s σ H R I (tM_bndI g ev h q fun d2 m2 w1 v1 H1 e1 h1 g1 x1 r1 q1 => ?_)
        rw [hp] at e1
        cases e1
        cases h1
        simp only [Rep] at r1
        obtain ⟨a, xs, rfl, fa, ha, hr⟩ := r1
        exact ⟨a, rfl, ⟨xs, SqL.of ha⟩, q1 w1 H1 _ g1 Ext.refl (yl_list (fun w' H' x => SqL.of (x.lst _ _ fa ha)) (fun _ _ _ _ _ => trivial) hr)⟩
      | ro ds =>
        refine (pi_list hl).run pins s σ H R I (tM_bndI g ev h q fun d2 m2 w1 v1 H1 e1 h1 g1 x1 r1 q1 => ?_)
        rw [hp] at e1
        cases e1
        cases h1
        simp only [Rep] at r1
        obtain ⟨a, xs, rfl, ha, hr⟩ := r1
        exact ⟨a, rfl, ⟨xs, ha.sq⟩, q1 w1 H1 _ g1 Ext.refl (yl_list (fun w' H' x => (ha.mono x).sq) (fun _ _ _ _ _ => trivial) hr)⟩
      | str z =>
        refine (pi_str hl).run pins s σ H R I (tM_bndI g ev h q fun d2 m2 w1 v1 H1 e1 h1 g1 x1 r1 q1 => ?_)
        rw [hp] at e1
        cases e1
        cases h1
        obtain rfl := rep_str r1
        exact ⟨z, rfl, q1 w1 H1 _ g1 Ext.refl yl_str⟩
      | loc i =>
        refine (pi_list hl).run pins s σ H R I (tM_bndI g ev h q fun d2 m2 w1 v1 H1 e1 h1 g1 x1 r1 q1 => ?_)
        rw [hp] at e1
        cases e1
        have hr := r1
        simp only [Rep] at hr
        obtain ⟨a, rfl, r2⟩ := hr
        obtain ⟨c, hc⟩ := g1.cell r2
        have h1 : (match m1[i]? with
          | some (.lst l) => some (Out.ok l (m1.set i (.frz l)))
          | some (.frz l) => some (.ok l m1)
          | none => none) = some r := h1
        rw [hc] at h1
        cases c with
        | lst l' =>
          cases h1
          obtain ⟨g2, r3⟩ := g1.freeze hc r2
          simp only [Rep] at r3
          obtain ⟨a', xs, e2, fa, ha, hr⟩ := r3
          cases e2
          exact ⟨a, rfl, ⟨xs, SqL.of ha⟩, q1 (w1.fzn a) H1 _ g2 Ext.fzn (yl_list (fun w' H' x => SqL.of (x.lst _ _ fa ha)) (fun _ _ _ _ _ => trivial) hr)⟩
        | frz l' =>
          cases h1
          have r3 := g1.thaw hc r2
          simp only [Rep] at r3
          obtain ⟨a', xs, e2, fa, ha, hr⟩ := r3
          cases e2
          exact ⟨a, rfl, ⟨xs, SqL.of ha⟩, q1 w1 H1 _ g1 Ext.refl (yl_list (fun w' H' x => SqL.of (x.lst _ _ fa ha)) (fun _ _ _ _ _ => trivial) hr)⟩
      | non => unfold iSeq at h; rw [hp] at h; cases h
      | bl b => unfold iSeq at h; rw [hp] at h; cases h
      | int b => unfold iSeq at h; rw [hp] at h; cases h
theorem tA_bndI {k : List D → Mem → Option (Out (List D))} {σ : L2.St} {H : Hp} {R : It → Hp → Prop} {w : Wd} {m : Mem} {e : Ev} {r : Out (List D)} (g : Good X.K w H m) (ev : EvR X.K w H e σ) (h : bnd (pa e m) k = some r) (q : PostI X W σ w H R r)
    {S : List V → Hp → Prop} (hk : ∀ d m1 w1 v H1, k d m1 = some r → Good X.K w1 H1 m1 → Ext X.K w H w1 H1 → RepL X.K w1 H1 d v → PostI X W σ w1 H1 R r → S v H1) : tA X W pa σ H S := by
  cases hp : pa e m with
  | none => rw [hp] at h; cases h
  | some o =>
    rw [hp] at h
    cases o with
    | ok d m1 => exact ⟨w, m, e, _, g, ev, hp, fun w1 v H1 g1 x1 r1 => hk d m1 w1 v H1 h g1 x1 r1 (q.ext x1)⟩
    | exc c m1 =>
      have h : some (Out.exc c m1) = some r := h
      cases h
      exact ⟨w, m, e, _, g, ev, hp, q⟩
theorem in62_iff {i : Int} (h : in62 i = true) : -(2 ^ 62) ≤ i ∧ i < 2 ^ 62 := by
  unfold in62 at h
  rw [Bool.and_eq_true] at h
  exact ⟨of_decide_eq_true h.1, of_decide_eq_true h.2⟩
theorem mi_range1 {a : Expr} {p' pos : Pos} (hg : Gl X "range") (hm : X.mg "range" = none) (ha : MA X W [a] pa) (hs : starEach [a] X.env = [(false, eval a X.env)] := by rfl) : MI X W tg (.Call (.Name "range" p') [a] [] pos) (iR1 pa) :=
  PI.imp (pi_range1 hg hm ha hs) fun σ H R ⟨w, m, e, r, g, ev, h, q⟩ => by
    refine tA_bndI g ev h q fun d m1 w1 v H1 h1 g1 x1 r1 q1 => ?_
    split at h1
    · split at h1
      · rename_i j hj
        cases h1
        obtain ⟨v, rfl, rv⟩ := repL1 r1
        obtain rfl := rep_int rv
        obtain ⟨b1, b2⟩ := in62_iff hj
        exact ⟨_, rfl, b1, b2, q1 w1 H1 _ g1 Ext.refl yl_rng⟩
      · cases h1
    · cases h1
theorem mi_range2 {a b : Expr} {p' pos : Pos} (hg : Gl X "range") (hm : X.mg "range" = none) (ha : MA X W [a, b] pa) (hs : starEach [a, b] X.env = [(false, eval a X.env), (false, eval b X.env)] := by rfl) (hs2 : starEach [b] X.env = [(false, eval b X.env)] := by rfl) : MI X W tg (.Call (.Name "range" p') [a, b] [] pos) (iR2 pa) :=
  PI.imp (pi_range2 hg hm ha hs hs2) fun σ H R ⟨w, m, e, r, g, ev, h, q⟩ => by
    refine tA_bndI g ev h q fun d m1 w1 v H1 h1 g1 x1 r1 q1 => ?_
    split at h1
    · split at h1
      · rename_i i j hj
        cases h1
        obtain ⟨v, u, rfl, rv, ru⟩ := repL2 r1
        obtain rfl := rep_int rv
        obtain rfl := rep_int ru
        rw [Bool.and_eq_true] at hj
        obtain ⟨b1, b2⟩ := in62_iff hj.1
        obtain ⟨b3, b4⟩ := in62_iff hj.2
        exact ⟨_, _, rfl, ⟨b1, b2, b3, b4⟩, q1 w1 H1 _ g1 Ext.refl yl_rng⟩
      · cases h1
    · cases h1
theorem repL3 {K : PySem.W.Frag} {w : Wd} {H : Hp} {a b c : D} {xs : List V} (h : RepL K w H [a, b, c] xs) : ∃ v u t, xs = [v, u, t] ∧ Rep K w H a v ∧ Rep K w H b u ∧ Rep K w H c t := by
  obtain ⟨v, r, rfl, h1, h2⟩ := RepL.cons_iff.mp h
  obtain ⟨u, t, rfl, h3, h4⟩ := repL2 h2
  exact ⟨v, u, t, rfl, h1, h3, h4⟩
theorem mi_range3 {a b c : Expr} {p' pos : Pos} (hg : Gl X "range") (hm : X.mg "range" = none) (ha : MA X W [a, b, c] pa) (hs : starEach [a, b, c] X.env = (false, eval a X.env) :: starEach [b, c] X.env := by rfl) (hpl : (backTo pos (starEach [b, c] X.env)).any (·.1) = false := by rfl) : MI X W tg (.Call (.Name "range" p') [a, b, c] [] pos) (iR3 pa) :=
  PI.imp (pi_range3 hg hm ha hs hpl) fun σ H R ⟨w, m, e, r, g, ev, h, q⟩ => by
    refine tA_bndI g ev h q fun d m1 w1 v H1 h1 g1 x1 r1 q1 => ?_
    split at h1
    · rename_i i j c
      obtain ⟨v, u, t, rfl, rv, ru, rt⟩ := repL3 r1
      obtain rfl := rep_int rv
      obtain rfl := rep_int ru
      obtain rfl := rep_int rt
      split at h1
      · rename_i hc
        subst hc
        split at h1
        · rename_i hj
          cases h1
          rw [Bool.and_eq_true] at hj
          obtain ⟨b1, b2⟩ := in62_iff hj.1
          obtain ⟨b3, b4⟩ := in62_iff hj.2
          exact ⟨_, _, _, _, rfl, RgC.neg b1 b2 b3 b4, q1 w1 H1 _ g1 Ext.refl yl_rngC⟩
        · cases h1
      · split at h1
        · rename_i hj
          cases h1
          rw [Bool.and_eq_true, Bool.and_eq_true, Bool.and_eq_true] at hj
          obtain ⟨⟨⟨b1, b2⟩, b3⟩, b4⟩ := hj
          have b4 := of_decide_eq_true b4
          exact ⟨_, _, _, _, rfl, ⟨of_decide_eq_true b1, of_decide_eq_true b2, b3, by omega⟩, q1 w1 H1 _ g1 Ext.refl yl_rngC⟩
        · cases h1
    · cases h1
theorem mi_zip {e e2 : Expr} {p' pos tpos : Pos} {elts : List Expr} {kk : Nat} (hg : Gl X "zip") (hm : X.mg "zip" = none) (ha : MA X W [e, e2] pa)
    (hs : starEach [e, e2] X.env = (false, eval e X.env) :: starEach [e2] X.env := by rfl) (hpl : (backTo pos (starEach [e2] X.env)).any (·.1) = false := by rfl) : MI X W (.Tuple elts kk tpos) (.Call (.Name "zip" p') [e, e2] [] pos) (iZip pa) :=
  PI.imp (RZ.pi_zipA hg hm ha hs hpl) fun σ H R ⟨w, m, e, r, g, ev, h, q⟩ => by
    refine tA_bndI g ev h q fun d m1 w1 v H1 h1 g1 x1 r1 q1 => ?_
    split at h1
    · cases h1
      obtain ⟨v, u, rfl, rv, ru⟩ := repL2 r1
      obtain ⟨a, xs, rfl, ha, hl⟩ := asT_rep rv rfl
      obtain ⟨b, ys, rfl, hb, hr⟩ := asT_rep ru rfl
      exact ⟨a, b, xs, ys, rfl, .inr ⟨ha, hb, q1 w1 H1 _ g1 Ext.refl (yl_zipT ha hb hl hr)⟩⟩
    · cases h1
      obtain ⟨v, u, rfl, rv, ru⟩ := repL2 r1
      simp only [Rep] at rv ru
      obtain ⟨a, xs, rfl, fa, ha, hl⟩ := rv
      obtain ⟨b, ys, rfl, fb, hb, hr⟩ := ru
      exact ⟨a, b, xs, ys, rfl, .inl ⟨SqL.of ha, SqL.of hb, q1 w1 H1 _ g1 Ext.refl (yl_zipL fa fb ha hb hl hr)⟩⟩
    · cases h1
end

/-! ### loops -/
def loopF (g : PGF) (b : PSF) : List D → Ev → Mem → Option SOut
  | [], e, m => some (.nx e m)
  | d :: ds, e, m => match g d e m with
    | some (.ok e1 m1) => match b e1 m1 with
      | some (.nx e2 m2) => loopF g b ds e2 m2
      | some (.ct e2 m2) => loopF g b ds e2 m2
      | some (.bk e2 m2) => some (.nx e2 m2)
      | r => r
    | _ => none
def sFor (pi : PIF) (g : PGF) (b : PSF) : PSF := fun e m => bndS (pi e m) e fun ds m1 => loopF g b ds e m1
def whileF (c : PTF) (b : PSF) : Nat → Ev → Mem → Option SOut
  | 0, _, _ => none
  | n + 1, e, m => bndS (c e m) e fun k m1 => if k = true then (match b e m1 with
      | some (.nx e2 m2) => whileF c b n e2 m2
      | some (.ct e2 m2) => whileF c b n e2 m2
      | some (.bk e2 m2) => some (.nx e2 m2)
      | r => r) else some (.nx e m1)
def sWhile (fuel : Ev → Mem → Nat) (c : PTF) (b : PSF) : PSF := fun e m => whileF c b (fuel e m) e m
section
variable {X : Cx} {W : WX} {tg iter c : Expr} {body : List Stmt} {pi : PIF} {g : PGF} {b : PSF} {pt : PTF} {pos : Pos}
theorem tI_bndS {k : List D → Mem → Option SOut} {σ : L2.St} {H : Hp} {D : Ends} {w : Wd} {m : Mem} {e : Ev} {r : SOut} (g : Good X.K w H m) (ev : EvR X.K w H e σ) (h : bndS (pi e m) e k = some r) (q : PostS X W D w H r)
    {R : It → Hp → Prop} (hk : ∀ d m1 w1 J H1, k d m1 = some r → Good X.K w1 H1 m1 → Ext X.K w H w1 H1 → Yields X.K J w1 H1 d → EvR X.K w1 H1 e σ → PostS X W D w1 H1 r → R J H1) : tI X W pi σ H R := by
  cases hp : pi e m with
  | none => rw [hp] at h; cases h
  | some o =>
    rw [hp] at h
    cases o with
    | ok d m1 => exact ⟨w, m, e, _, g, ev, hp, fun w1 H1 J g1 x1 y1 => hk d m1 w1 J H1 h g1 x1 y1 (ev.mono x1) (q.ext x1)⟩
    | exc c m1 =>
      have h : some (SOut.exc c e m1) = some r := h
      cases h
      exact ⟨w, m, e, _, g, ev, hp, fun w' H' C g' x' hc => q w' σ H' C g' x' (ev.mono x') hc⟩
theorem ms_for (hp : PassesOwn (model X.prog X.w) X.A X.env X.xe) (hc : X.calm = true) (hi : MI X W tg iter pi) (hg : MG X W tg g) (hb : MSs X W body b)
    (hs : ∀ x, foldedSetIterable iter X.env x = pure x := by intro _; rfl) : MS X W (.For tg iter body [] pos) (sFor pi g b) := PS.imp (ps_for hp hc hi hg hb hs) fun D σ H ⟨w, m, e, r, g0, ev, h, qq⟩ => by
  refine tI_bndS g0 ev h qq fun ds m1 w1 J H1 h1 g1 x1 y1 ev1 q1 => ?_
  refine ⟨fun i n σ' H' => n = ds.length - i ∧ i ≤ ds.length ∧ ∃ w' m' e', Good X.K w' H' m' ∧ Ext X.K w1 H1 w' H' ∧ EvR X.K w' H' e' σ' ∧ loopF g b (ds.drop i) e' m' = some r,
    ⟨ds.length, by simp, Nat.zero_le _, w1, m1, e, g1, Ext.refl, ev1, h1⟩, ?_⟩
  rintro i n σ' H' ⟨rfl, hi, w', m', e', g', x', ev', hl⟩
  by_cases hlt : i < ds.length
  · refine .inr ⟨y1.go i w' H' x' hlt, fun σ2 H2 => ∃ w2 m2 e2, Good X.K w2 H2 m2 ∧ Ext X.K w1 H1 w2 H2 ∧ EvR X.K w2 H2 e2 σ2 ∧ loopF g b (ds.drop (i + 1)) e2 m2 = some r, fun σ2 H2 hN => ?_, fun x H2 hy => ?_⟩
    · exact ⟨ds.length - (i + 1), by omega, rfl, hlt, hN⟩
    · have hd : ds[i]? = some ds[i] := List.getElem?_eq_getElem hlt
      obtain ⟨w2, g2, x2, rd⟩ := y1.yld i x w' H' H2 m' g' x' hy _ hd
      rw [List.drop_eq_getElem_cons hlt] at hl
      unfold loopF at hl
      split at hl
      · rename_i e3 m3 hg3
        refine ⟨w2, m', e', ds[i], _, g2, ev'.mono x2, rd, hg3, fun w3 σ3 H3 g3 x3 ev3 => ?_⟩
        have x13 := (x'.trans x2).trans x3
        cases hb3 : b e3 m3 with
        | none => rw [hb3] at hl; cases hl
        | some u =>
          refine ⟨w3, m3, e3, u, g3, ev3, hb3, ?_⟩
          rw [hb3] at hl
          cases u with
          | nx e4 m4 => exact fun w4 σ4 H4 g4 x4 ev4 => ⟨w4, m4, e4, g4, x13.trans x4, ev4, hl⟩
          | ct e4 m4 => exact fun w4 σ4 H4 g4 x4 ev4 => ⟨w4, m4, e4, g4, x13.trans x4, ev4, hl⟩
          | bk e4 m4 =>
            cases hl
            exact fun w4 σ4 H4 g4 x4 ev4 => q1 w4 σ4 H4 g4 (x13.trans x4) ev4
          | rt d m4 =>
            cases hl
            exact fun w4 v4 H4 g4 x4 r4 => q1 w4 v4 H4 g4 (x13.trans x4) r4
          | exc c e4 m4 =>
            cases hl
            exact fun w4 σ4 H4 C g4 x4 ev4 hc4 => q1 w4 σ4 H4 C g4 (x13.trans x4) ev4 hc4
      · cases hl
  · have e0 : i = ds.length := by omega
    subst e0
    rw [List.drop_length] at hl
    cases hl
    exact .inl ⟨y1.stop w' H' x', q1 w' σ' H' g' x' ev'⟩
theorem ms_while (fuel : Ev → Mem → Nat) (hp : PassesOwn (model X.prog X.w) X.A X.env X.xe) (hc : MT X W c pt) (hb : MSs X W body b) : MS X W (.While c body [] pos) (sWhile fuel pt b) := PS.imp (ps_while hp hc hb) fun D σ H ⟨w, m, e, r, g0, ev, h, qq⟩ => by
  refine ⟨fun n σ' H' => ∃ w' m' e', Good X.K w' H' m' ∧ Ext X.K w H w' H' ∧ EvR X.K w' H' e' σ' ∧ whileF pt b n e' m' = some r, ⟨_, w, m, e, g0, Ext.refl, ev, h⟩, ?_⟩
  rintro n σ' H' ⟨w', m', e', g', x', ev', hl⟩
  cases n with
  | zero => cases hl
  | succ n =>
    refine tT_bndS g' ev' hl (qq.ext x') fun k m1 w1 H1 h1 g1 x1 ev1 q1 => ?_
    split at h1
    · rename_i hk
      rw [if_pos hk]
      refine ⟨fun σ2 H2 => ∃ w2 m2 e2, Good X.K w2 H2 m2 ∧ Ext X.K w H w2 H2 ∧ EvR X.K w2 H2 e2 σ2 ∧ whileF pt b n e2 m2 = some r, fun σ2 H2 hN => ⟨n, Nat.lt_succ_self n, hN⟩, ?_⟩
      have x01 := x'.trans x1
      cases hb3 : b e' m1 with
      | none => rw [hb3] at h1; cases h1
      | some u =>
        refine ⟨w1, m1, e', u, g1, ev1, hb3, ?_⟩
        rw [hb3] at h1
        cases u with
        | nx e4 m4 => exact fun w4 σ4 H4 g4 x4 ev4 => ⟨w4, m4, e4, g4, x01.trans x4, ev4, h1⟩
        | ct e4 m4 => exact fun w4 σ4 H4 g4 x4 ev4 => ⟨w4, m4, e4, g4, x01.trans x4, ev4, h1⟩
        | bk e4 m4 =>
          cases h1
          exact fun w4 σ4 H4 g4 x4 ev4 => q1 w4 σ4 H4 g4 x4 ev4
        | rt d m4 =>
          cases h1
          exact fun w4 v4 H4 g4 x4 r4 => q1 w4 v4 H4 g4 x4 r4
        | exc c e4 m4 =>
          cases h1
          exact fun w4 σ4 H4 C g4 x4 ev4 hc4 => q1 w4 σ4 H4 C g4 x4 ev4 hc4
    · rename_i hk
      rw [if_neg hk]
      cases h1
      exact q1 w1 σ' H1 g1 Ext.refl ev1
end
end Z

set_option maxRecDepth 100000
set_option maxHeartbeats 4000000
set_option autoImplicit false
namespace Z
open PySem PySem.Spec PyProof.Rows L2

/-! ### comprehensions -/
/-- a comprehension's target: a name, or names in a tuple -/
inductive Tgt where
  | n (i : Nat)
  | t (is : List Nat)
def gNs : List Nat → TGs
  | [] => gNil
  | i :: is => gCons (gName i) (gNs is)
def tgtG (K : PySem.W.Frag) : Tgt → TG
  | .n i => gName i
  | .t is => gTup K is.length (gNs is)
def tgtE (t : Tgt) (d : D) (e : Ev) : Option Ev := match t, d with
  | .n i, d => some (e.set i (some d))
  | .t is, .tup ds => if ds.length = is.length then some (setAll is ds e) else none
  | _, _ => none
def Tgt.slots : Tgt → List Nat
  | .n i => [i]
  | .t is => is
abbrev W0 : WX := fun _ _ _ _ => False
theorem wipe_set {i : Nat} {o : Option V} : ∀ {vs : List Nat} {σ : L2.St}, i ∈ vs → L2.wipe (σ.set i o) vs = L2.wipe σ vs
  | v :: vs, σ, h => by
    unfold L2.wipe
    by_cases hv : v = i
    · subst hv
      by_cases hm : v ∈ vs
      · rw [wipe_set hm]
      · have : ∀ (vs : List Nat) (σ : L2.St), v ∉ vs → L2.wipe (σ.set v o) vs = (L2.wipe σ vs).set v o := fun vs => by
          induction vs with
          | nil => intro σ _; rfl
          | cons u vs ih =>
            intro σ hn
            unfold L2.wipe
            rw [ih σ fun z => hn (List.mem_cons_of_mem _ z)]
            exact List.set_comm _ _ fun z => hn (by rw [z]; exact List.mem_cons_self)
        rw [this vs σ hm, List.set_set]
    · have hm : i ∈ vs := by
        rcases List.mem_cons.mp h with z | z
        · exact absurd z.symm hv
        · exact z
      rw [wipe_set hm]
theorem wipe_wipe {vs : List Nat} {σ : L2.St} : ∀ {us : List Nat}, (∀ u ∈ us, u ∈ vs) → L2.wipe (L2.wipe σ us) vs = L2.wipe σ vs
  | [], _ => rfl
  | u :: us, h => by
    show L2.wipe ((L2.wipe σ us).set u none) vs = _
    rw [wipe_set (h u List.mem_cons_self), wipe_wipe fun v hv => h v (List.mem_cons_of_mem _ hv)]
theorem gNs_run {K : PySem.W.Frag} {w : Wd} {H : Hp} {vs0 : List Nat} : ∀ {is : List Nat} {ds : List D} {xs : List V} {e : Ev} {σ : L2.St} {Q : L2.St → Hp → Prop}, (∀ i ∈ is, i ∈ vs0) → ds.length = is.length → RepL K w H ds xs → EvR K w H e σ →
    (∀ σ', EvR K w H (setAll is ds e) σ' → L2.wipe σ' vs0 = L2.wipe σ vs0 → Q σ' H) → gNs is xs σ H Q
  | [], ds, xs, e, σ, Q, hs, hl, r, ev, q => by
    have : ds = [] := List.eq_nil_of_length_eq_zero hl
    subst this
    obtain rfl := RepL.nil_iff.mp r
    exact ⟨rfl, q σ ev rfl⟩
  | i :: is, ds, xs, e, σ, Q, hs, hl, r, ev, q => by
    match ds, hl, r, q with
    | d :: ds, hl, r, q =>
      obtain ⟨v, t, rfl, rd, rt⟩ := RepL.cons_iff.mp r
      refine ⟨v, t, rfl, ?_⟩
      refine gNs_run (is := is) (ds := ds) (e := e.set i (some d)) (fun j hj => hs j (List.mem_cons_of_mem _ hj)) (by simpa using hl) rt (ev.set rd) fun σ' ev' hw => q σ' ev' ?_
      rw [hw]
      exact wipe_set (hs i List.mem_cons_self)
theorem tgt_run {K : PySem.W.Frag} {w : Wd} {H : Hp} {vs0 : List Nat} {T : Tgt} {d : D} {v : V} {e e' : Ev} {σ : L2.St} {Q : L2.St → Hp → Prop} (hs : ∀ i ∈ T.slots, i ∈ vs0) (r : Rep K w H d v) (ev : EvR K w H e σ) (h : tgtE T d e = some e')
    (q : ∀ σ', EvR K w H e' σ' → L2.wipe σ' vs0 = L2.wipe σ vs0 → Q σ' H) : tgtG K T v σ H Q := by
  unfold tgtE at h
  split at h
  · rename_i i
    cases h
    exact q _ (ev.set r) (wipe_set (hs i List.mem_cons_self))
  · rename_i is ds
    split at h
    · rename_i hl
      cases h
      obtain ⟨a, xs, rfl, ha, hr⟩ := asT_rep r rfl
      exact ⟨a, xs, rfl, ha, by rw [hr.len]; exact hl, gNs_run hs hl hr ev q⟩
    · cases h
  · cases h
mutual
theorem rep_pv {K : PySem.W.Frag} {w : Wd} {H : Hp} {f : Addr → Prop} : ∀ {d : D} {v : V}, Rep K w H d v → Rep K { w with pv := f } H d v
  | .non, _, h => h
  | .bl _, _, h => h
  | .int _, _, h => h
  | .str _, _, h => h
  | .tup l, _, h => by
    simp only [Rep] at h ⊢
    obtain ⟨a, xs, r, t, q⟩ := h
    exact ⟨a, xs, r, t, repL_pv q⟩
  | .lst l, _, h => by
    simp only [Rep] at h ⊢
    obtain ⟨a, xs, r, f, t, q⟩ := h
    exact ⟨a, xs, r, f, t, repL_pv q⟩
  | .ro l, _, h => by
    simp only [Rep] at h ⊢
    obtain ⟨a, xs, r, t, q⟩ := h
    exact ⟨a, xs, r, t, repL_pv q⟩
  | .loc i, _, h => by
    simp only [Rep] at h ⊢
    exact h
theorem repL_pv {K : PySem.W.Frag} {w : Wd} {H : Hp} {f : Addr → Prop} : ∀ {l : List D} {vs : List V}, RepL K w H l vs → RepL K { w with pv := f } H l vs
  | [], _, h => by simp only [RepL] at h ⊢; exact h
  | d :: l, _, h => by
    simp only [RepL] at h ⊢
    obtain ⟨v, r, q, h1, h2⟩ := h
    exact ⟨v, r, q, rep_pv h1, repL_pv h2⟩
end
theorem evR_pv {K : PySem.W.Frag} {w : Wd} {H : Hp} {f : Addr → Prop} {e : Ev} {σ : L2.St} (h : EvR K w H e σ) : EvR K { w with pv := f } H e σ := ⟨h.1, fun i d q => by
  obtain ⟨v, h1, h2⟩ := h.2 i d q
  exact ⟨v, h1, rep_pv h2⟩⟩
theorem repC_pv {K : PySem.W.Frag} {w : Wd} {H : Hp} {f : Addr → Prop} {a : Addr} {c : Cell} (h : RepC K w H a c) : RepC K { w with pv := f } H a c := by
  cases c with
  | lst l => obtain ⟨h1, xs, h2, h3⟩ := h; exact ⟨h1, xs, h2, repL_pv h3⟩
  | frz l => obtain ⟨h1, xs, h2, h3⟩ := h; exact ⟨h1, xs, h2, repL_pv h3⟩
/-- an address held as it is, and given up -/
def Wd.hold (w : Wd) (p : Addr) : Wd := { w with pv := fun a => a = p ∨ w.pv a }
def Wd.drop (w : Wd) (p : Addr) : Wd := { w with pv := fun a => a ≠ p ∧ w.pv a }
section
variable {K : PySem.W.Frag} {w w' : Wd} {H H' : Hp} {m : Mem} {p : Addr} {xs ys : List V}
theorem Good.hold0 (g : Good K w H m) (hp : H p = none) : Good K (w.hold p) (upd H p (.lst [])) m ∧ Ext K w H ((w.hold p).drop p) (upd H p (.lst [])) ∧ ∀ {e : Ev} {σ : L2.St}, EvR K w H e σ → EvR K (w.hold p) (upd H p (.lst [])) e σ := by
  have g1 : Good K w (upd H p (.lst [])) m := g.new hp
  have x1 : Ext K w H w (upd H p (.lst [])) := Ext.new g hp
  have np : ¬ w.pv p := fun z => by
    obtain ⟨⟨o, h⟩, _⟩ := g.pv p z
    rw [hp] at h; cases h
  refine ⟨⟨g1.len, g1.nd, fun i c a hc ha => repC_pv (g1.at' i c a hc ha), g1.fz, fun a ha => ?_⟩, ⟨x1.ρ, x1.fz, x1.tup, x1.lst, x1.ro, fun a ha => ⟨⟨fun z => np (z ▸ ha), .inr ha⟩, (x1.pv a ha).2⟩⟩, fun ev => evR_pv (ev.mono x1)⟩
  rcases ha with rfl | ha
  · refine ⟨⟨_, upd_same⟩, fun z => ?_, fun z => ?_⟩
    · obtain ⟨i, hi⟩ := List.mem_iff_getElem?.mp z
      obtain ⟨ys, hy⟩ := g.there hi
      rw [hp] at hy; cases hy
    · obtain ⟨ys, hy⟩ := g.fz _ z
      rw [hp] at hy; cases hy
  · exact g1.pv a ha
theorem Ext.drop (x : Ext K w H w' H') : Ext K (w.drop p) H (w'.drop p) H' := ⟨x.ρ, x.fz, x.tup, x.lst, x.ro, fun a ha => ⟨⟨ha.1, (x.pv a ha.2).1⟩, (x.pv a ha.2).2⟩⟩
theorem Good.grow (g : Good K w H m) (hv : w.pv p) (hp : H p = some (.lst xs)) : Good K w (upd H p (.lst ys)) m ∧ Ext K (w.drop p) H (w.drop p) (upd H p (.lst ys)) := by
  obtain ⟨_, nr, nf⟩ := g.pv p hv
  have x : Ext K (w.drop p) H (w.drop p) (upd H p (.lst ys)) := by
    refine ⟨fun _ _ h => h, fun _ h => h, fun b zs h => ?_, fun b zs hf h => ?_, fun b zs h => sqR_upd (fun ob u z => by rw [hp] at z; cases z) h, fun a ha => ⟨ha, upd_ne ha.1⟩⟩
    · rcases h with (h | ⟨ob, h⟩) | h
      · exact .inl (.inl (by rw [upd_ne (fun z => by rw [z, hp] at h; cases h)]; exact h))
      · exact .inl (.inr ⟨ob, by rw [upd_ne (fun z => by rw [z, hp] at h; cases h)]; exact h⟩)
      · exact .inr h
    · have nb : b ≠ p := fun z => nf (by rw [← z]; exact hf)
      rw [upd_ne nb]; exact h
  refine ⟨⟨g.len, g.nd, fun i c a hc ha => ?_, fun a ha => ?_, fun a ha => ?_⟩, x⟩
  · have q := g.at' i c a hc ha
    have q1 : RepC K (w.drop p) H a c := repC_pv q
    have na : a ≠ p := fun z => nr (by rw [← z]; exact List.mem_of_getElem? ha)
    have q2 : RepC K (w.drop p) (upd H p (.lst ys)) a c := q1.mono x (fun h => h) fun zs h => by rw [upd_ne na]; exact h
    exact repC_pv (w := w.drop p) (f := w.pv) q2
  · obtain ⟨zs, h⟩ := g.fz a ha
    have na : a ≠ p := fun z => nf (by rw [← z]; exact ha)
    exact ⟨zs, by rw [upd_ne na]; exact h⟩
  · obtain ⟨⟨o, h1⟩, h2, h3⟩ := g.pv a ha
    by_cases na : a = p
    · subst na; exact ⟨⟨_, upd_same⟩, h2, h3⟩
    · exact ⟨⟨o, by rw [upd_ne na]; exact h1⟩, h2, h3⟩
/-- it is made: it changes no more -/
theorem Good.made {l : List D} (g : Good K w H m) (hv : w.pv p) (hp : H p = some (.lst xs)) (r : RepL K w H l xs) : Good K ((w.drop p).fzn p) H m ∧ Rep K ((w.drop p).fzn p) H (.lst l) (.ref p) := by
  obtain ⟨_, nr, nf⟩ := g.pv p hv
  have x : Ext K (w.drop p) H ((w.drop p).fzn p) H := Ext.fzn
  refine ⟨⟨g.len, g.nd, fun i c a hc ha => ?_, fun a ha => ?_, fun a ha => ?_⟩, ?_⟩
  · have q1 : RepC K (w.drop p) H a c := repC_pv (g.at' i c a hc ha)
    have na : a ≠ p := fun z => nr (by rw [← z]; exact List.mem_of_getElem? ha)
    exact q1.mono x (fun h z => z.elim (fun e => na e) h) fun _ h => h
  · rcases ha with rfl | ha
    · exact ⟨xs, hp⟩
    · exact g.fz a ha
  · obtain ⟨h1, h2, h3⟩ := g.pv a ha.2
    exact ⟨h1, h2, fun z => z.elim (fun e => ha.1 e) h3⟩
  · simp only [Rep]
    exact ⟨p, xs, rfl, .inl rfl, hp, RepL.mono x (repL_pv r)⟩
end
def tYesF : PTF := fun _ m => some (.ok true m)
abbrev MTs (X : Cx) (W : WX) (ifs : List Expr) (p : PTF) : Prop := PTs X ifs (tT X W p)
theorem PTs.imp {X : Cx} {e : List Expr} {t t' : TT} (h : PTs X e t) (i : ∀ σ H Q, t' σ H Q → t σ H Q) : PTs X e t' := ⟨fun pins s σ H Q I q => h.run pins s σ H Q I (i _ _ _ q)⟩
theorem mts_nil {X : Cx} {W : WX} : MTs X W [] tYesF := PTs.imp pts_nil fun σ H Q ⟨w, m, e, r, g, ev, h, q⟩ => by
  cases h
  exact q w H g Ext.refl
theorem mts_one {X : Cx} {W : WX} {c : Expr} {p : PTF} (h : MT X W c p) : MTs X W [c] p := pts_one h
def lcF (T : Tgt) (t : PTF) (el : PEF) (e : Ev) : List D → Mem → Option (Out (List D))
  | [], m => some (.ok [] m)
  | d :: ds, m => match tgtE T d e with
    | some e1 => match t e1 m with
      | some (.ok true m2) => match el e1 m2 with
        | some (.ok y m3) => match lcF T t el e ds m3 with
          | some (.ok ys m4) => some (.ok (y :: ys) m4)
          | _ => none
        | _ => none
      | some (.ok false m2) => lcF T t el e ds m2
      | _ => none
    | none => none
/-- what becomes of the made list: it changes no more, or it is a cell -/
structure Fin1 (K : PySem.W.Frag) (fin : List D → Mem → D × Mem) : Prop where
  ok : ∀ w H m p xs l, Good K w H m → w.pv p → H p = some (.lst xs) → RepL K w H l xs → ∃ w', Good K w' H (fin l m).2 ∧ Ext K (w.drop p) H w' H ∧ Rep K w' H (fin l m).1 (.ref p)
def finF (l : List D) (m : Mem) : D × Mem := (.lst l, m)
def finM (l : List D) (m : Mem) : D × Mem := (.loc m.length, m ++ [.lst l])
theorem fin_F {K : PySem.W.Frag} : Fin1 K finF := ⟨fun w H m p xs l g hv hp r => ⟨_, (g.made hv hp r).1, Ext.fzn, (g.made hv hp r).2⟩⟩
theorem fin_M {K : PySem.W.Frag} : Fin1 K finM := ⟨fun w H m p xs l g hv hp r => by
  obtain ⟨_, nr, nf⟩ := g.pv p hv
  refine ⟨(w.drop p).push p, ⟨?_, ?_, fun i c a hc ha => ?_, g.fz, fun a ha => ?_⟩, Ext.push, ?_⟩
  · show (w.ρ ++ [p]).length = (m ++ [Cell.lst l]).length
    rw [List.length_append, List.length_append, g.len]; rfl
  · exact List.nodup_append.mpr ⟨g.nd, by simp, fun a ha b hb => by
      have : b = p := by simpa using hb
      subst this
      exact fun z => nr (z ▸ ha)⟩
  · have ha : (w.ρ ++ [p])[i]? = some a := ha
    have hc : (m ++ [Cell.lst l])[i]? = some c := hc
    by_cases hi : i < w.ρ.length
    · rw [List.getElem?_append_left hi] at ha
      rw [List.getElem?_append_left (by rw [← g.len]; exact hi)] at hc
      have q : RepC K (w.drop p) H a c := repC_pv (g.at' i c a hc ha)
      exact q.mono Ext.push (fun h => h) fun _ h => h
    · have hil : i < (w.ρ ++ [p]).length := (List.getElem?_eq_some_iff.mp ha).1
      rw [List.length_append, List.length_singleton] at hil
      have ei : i = w.ρ.length := by omega
      rw [ei, List.getElem?_append_right (Nat.le_refl _), Nat.sub_self] at ha
      rw [ei, g.len, List.getElem?_append_right (Nat.le_refl _), Nat.sub_self] at hc
      simp at ha hc
      subst ha hc
      exact ⟨nf, xs, hp, RepL.mono (w := w.drop p) Ext.push (repL_pv r)⟩
  · obtain ⟨h1, h2, h3⟩ := g.pv a ha.2
    refine ⟨h1, fun z => ?_, h3⟩
    have z : a ∈ w.ρ ++ [p] := z
    rcases List.mem_append.mp z with z | z
    · exact h2 z
    · exact ha.1 (by simpa using z)
  · show Rep K ((w.drop p).push p) H (.loc m.length) (.ref p)
    simp only [Rep]
    refine ⟨p, rfl, ?_⟩
    show (w.ρ ++ [p])[m.length]? = some p
    rw [← g.len, List.getElem?_append_right (Nat.le_refl _), Nat.sub_self]
    rfl⟩
def pLcG (fin : List D → Mem → D × Mem) (vs : List Nat) (pi : PIF) (T : Tgt) (t : PTF) (el : PEF) : PEF := fun e m => bnd (pi e m) fun ds m1 => if ds.length ≤ SL then (match lcF T t el (wipeE e vs) ds m1 with
  | some (.ok ys m2) => some (.ok (fin ys m2).1 (fin ys m2).2)
  | _ => none) else none
abbrev pLc := pLcG finF
abbrev pLcM := pLcG finM
section
variable {X : Cx} {W : WX}
theorem lc_of {fin : List D → Mem → D × Mem} (hfin : Fin1 X.K fin) {vs : List Nat} {pi : PIF} {T : Tgt} {t : PTF} {el : PEF} {σ : L2.St} {H : Hp} {Q : VK} (hT : ∀ i ∈ T.slots, i ∈ vs) (h : tM X W (pLcG fin vs pi T t el) σ H Q) : tLc (tI X W pi) (tgtG X.K T) (tT X W0 t) (tM X W0 el) vs σ H Q := by
  obtain ⟨w, m, e, r, g0, ev, h, qq⟩ := h
  show tI X W pi σ H _
  unfold pLcG at h
  cases hp : pi e m with
  | none => rw [hp] at h; cases h
  | some o =>
    rw [hp] at h
    cases o with
    | exc c m1 => cases h; exact ⟨w, m, e, _, g0, ev, hp, qq⟩
    | ok ds m1 =>
      refine ⟨w, m, e, _, g0, ev, hp, fun w1 H1 J g1 x1 y1 p hpn => ?_⟩
      have h : (if ds.length ≤ SL then (match lcF T t el (wipeE e vs) ds m1 with
        | some (.ok ys m2) => some (.ok (fin ys m2).1 (fin ys m2).2)
        | _ => none) else none) = some r := h
      split at h
      · rename_i hz
        cases hl : lcF T t el (wipeE e vs) ds m1 with
        | none => rw [hl] at h; cases h
        | some o =>
          rw [hl] at h
          cases o with
          | exc _ _ => cases h
          | ok all m2 =>
            cases h
            obtain ⟨g2, x2, ev2⟩ := g1.hold0 hpn
            have evw : EvR X.K (w1.hold p) (upd H1 p (.lst [])) (wipeE e vs) (L2.wipe σ vs) := (ev2 (ev.mono x1)).wipe vs
            refine ⟨fun i n H' => n = ds.length - i ∧ i ≤ ds.length ∧ ∃ w' m' acc xs ys, Good X.K w' H' m' ∧ w'.pv p ∧ H' p = some (.lst xs) ∧ RepL X.K w' H' acc xs ∧ Ext X.K w1 H1 (w'.drop p) H' ∧ EvR X.K w' H' (wipeE e vs) (L2.wipe σ vs) ∧
              lcF T t el (wipeE e vs) (ds.drop i) m' = some (.ok ys m2) ∧ acc ++ ys = all ∧ acc.length ≤ i, ⟨ds.length, by simp, Nat.zero_le _, w1.hold p, m1, [], [], all, g2, .inl rfl, upd_same, RepL.nil, x2, evw, hl, rfl, Nat.le_refl _⟩, ?_⟩
            rintro i n H' ⟨rfl, hi, w', m', acc, xs, ys, g', pv', hx', ra, x', ev', hl', hall, hacc⟩
            by_cases hlt : i < ds.length
            · refine .inr ⟨y1.go i _ H' x' hlt, fun H2 => ∃ w2 m3 acc2 xs2 ys2, Good X.K w2 H2 m3 ∧ w2.pv p ∧ H2 p = some (.lst xs2) ∧ RepL X.K w2 H2 acc2 xs2 ∧ Ext X.K w1 H1 (w2.drop p) H2 ∧ EvR X.K w2 H2 (wipeE e vs) (L2.wipe σ vs) ∧
                lcF T t el (wipeE e vs) (ds.drop (i + 1)) m3 = some (.ok ys2 m2) ∧ acc2 ++ ys2 = all ∧ acc2.length ≤ i + 1, fun H2 hN => ⟨ds.length - (i + 1), by omega, rfl, hlt, hN⟩, fun x H2 hy => ?_⟩
              have hd : ds[i]? = some ds[i] := List.getElem?_eq_getElem hlt
              -- the item comes at a world that holds p too
              obtain ⟨w2, g2', x2', rd⟩ : ∃ w2, Good X.K w2 H2 m' ∧ Ext X.K w' H' w2 H2 ∧ Rep X.K w2 H2 ds[i] x := by
                have xy : Ext X.K w1 H1 w' H' := ⟨x'.ρ, x'.fz, x'.tup, x'.lst, x'.ro, fun a ha => ⟨(x'.pv a ha).1.2, (x'.pv a ha).2⟩⟩
                exact y1.yld i x w' H' H2 m' g' xy hy _ hd
              rw [List.drop_eq_getElem_cons hlt] at hl'
              unfold lcF at hl'
              cases htg : tgtE T ds[i] (wipeE e vs) with
              | none => rw [htg] at hl'; cases hl'
              | some e1 =>
                rw [htg] at hl'
                refine tgt_run hT rd (ev'.mono x2') htg fun σ2 ev3 hw => ⟨?_, ?_⟩
                · rw [hw]
                  exact wipe_wipe fun _ h => h
                have ev4 : EvR X.K w2 H2 (wipeE e vs) (L2.wipe σ vs) := ev'.mono x2'
                have hp2 : w2.pv p ∧ H2 p = some (.lst xs) := ⟨(x2'.pv p pv').1, ((x2'.pv p pv').2).trans hx'⟩
                have xx2 : Ext X.K w1 H1 (w2.drop p) H2 := x'.trans x2'.drop
                -- the test
                cases ht : t e1 m' with
                | none => simp only [ht] at hl'; cases hl'
                | some o =>
                  cases o with
                  | exc _ _ => simp only [ht] at hl'; cases hl'
                  | ok b m3 =>
                    refine ⟨w2, m', e1, _, g2', ev3, ht, fun w3 H3 g3 x3 => ?_⟩
                    have hp3 : w3.pv p ∧ H3 p = some (.lst xs) := ⟨(x3.pv p hp2.1).1, ((x3.pv p hp2.1).2).trans hp2.2⟩
                    cases b with
                    | false =>
                      simp only [ht] at hl'
                      refine iteF ?_
                      exact ⟨w3, m3, acc, xs, ys, g3, hp3.1, hp3.2, (ra.mono x2').mono x3, xx2.trans x3.drop, ev4.mono x3, hl', hall, by omega⟩
                    | true =>
                      simp only [ht] at hl'
                      refine iteT ?_
                      cases he : el e1 m3 with
                      | none => simp only [he] at hl'; cases hl'
                      | some o2 =>
                        cases o2 with
                        | exc _ _ => simp only [he] at hl'; cases hl'
                        | ok y m4 =>
                          simp only [he] at hl'
                          refine ⟨w3, m3, e1, _, g3, ev3.mono x3, he, fun w4 v4 H4 g4 x4 r4 => ?_⟩
                          have hp4 : w4.pv p ∧ H4 p = some (.lst xs) := ⟨(x4.pv p hp3.1).1, ((x4.pv p hp3.1).2).trans hp3.2⟩
                          have ra4 := ((ra.mono x2').mono x3).mono x4
                          refine ⟨xs, hp4.2, by rw [ra.len, ← SL_eq]; omega, ?_⟩
                          obtain ⟨g5, x5⟩ := g4.grow (ys := xs ++ [v4]) hp4.1 hp4.2
                          cases hrest : lcF T t el (wipeE e vs) (ds.drop (i + 1)) m4 with
                          | none => rw [hrest] at hl'; cases hl'
                          | some o3 =>
                            rw [hrest] at hl'
                            cases o3 with
                            | exc _ _ => cases hl'
                            | ok ys' m5 =>
                              cases hl'
                              have q6 : RepL X.K w4 (upd H4 p (.lst (xs ++ [v4]))) (acc ++ [y]) (xs ++ [v4]) := by
                                have h1 : RepL X.K (w4.drop p) H4 (acc ++ [y]) (xs ++ [v4]) := repL_pv (ra4.append (RepL.cons r4 RepL.nil))
                                exact repL_pv (w := w4.drop p) (f := w4.pv) (h1.mono x5)
                              have ev6 : EvR X.K w4 (upd H4 p (.lst (xs ++ [v4]))) (wipeE e vs) (L2.wipe σ vs) := by
                                have h1 : EvR X.K (w4.drop p) H4 (wipeE e vs) (L2.wipe σ vs) := evR_pv ((ev4.mono x3).mono x4)
                                exact evR_pv (w := w4.drop p) (f := w4.pv) (h1.mono x5)
                              refine ⟨w4, m4, acc ++ [y], xs ++ [v4], ys', g5, hp4.1, upd_same, q6, ((xx2.trans x3.drop).trans x4.drop).trans x5, ev6, hrest, ?_, ?_⟩
                              · rw [← hall, List.append_assoc]; rfl
                              · rw [List.length_append, List.length_singleton]; omega
            · have e0 : i = ds.length := by omega
              subst e0
              rw [List.drop_length] at hl'
              cases hl'
              rw [List.append_nil] at hall
              subst hall
              obtain ⟨w9, g3, x9, r3⟩ := hfin.ok _ _ _ _ _ _ g' pv' hx' ra
              exact .inl ⟨y1.stop _ H' x', qq w9 _ H' g3 ((x1.trans x').trans x9) r3⟩
      · cases h
end
end Z

set_option maxRecDepth 100000
set_option maxHeartbeats 4000000
set_option autoImplicit false
namespace Z
open PySem PySem.Spec PyProof.Rows L2

section
variable {X : Cx} {W : WX} {pi : PIF} {T : Tgt} {t : PTF} {el : PEF} {fin : List D → Mem → D × Mem}
theorem me_lc (hfin : Fin1 X.K fin) {elt tg iter : Expr} {ifs : List Expr} {scope : Scope} {own : List (Str × Nat)} {pos : Pos} (hc : X.calm = true) (hN : X.N.Nodup) (hi : MI X W tg iter pi) (ok : BlkOk X.N X.env.scope scope own) {vs : List Nat} (hv : own.map (·.2) = vs) (hT : ∀ i ∈ T.slots, i ∈ vs)
    (hg : ∀ (s : Shared) (H : Hp) (C : Addr) (cl : List (Str × Addr)) (fp : List Addr), PG (X.blk s H scope (compEnvC scope cl C X.env) fp) tg (tgtG X.K T)) (ht : ∀ (s : Shared) (H : Hp) (C : Addr) (cl : List (Str × Addr)) (fp : List Addr), MTs (X.blk s H scope (compEnvC scope cl C X.env) fp) W0 ifs t)
    (he : ∀ (s : Shared) (H : Hp) (C : Addr) (cl : List (Str × Addr)) (fp : List Addr), ME (X.blk s H scope (compEnvC scope cl C X.env) fp) W0 elt el) (hs : ∀ x, foldedSetIterable iter X.env x = pure x := by intro _; rfl) :
    ME X W (.ListComp elt [⟨tg, iter, ifs, 0⟩] scope pos) (pLcG fin vs pi T t el) := by
  subst hv
  exact PE.imp (pe_lc (tt := tT X W0 t) (te := tM X W0 el) hc hN hi ok hg ht he hs) fun _ _ _ h => lc_of hfin hT h
theorem ms_lc (hfin : Fin1 X.K fin) {i : Nat} {y : Str} {py : Pos} {elt tg iter : Expr} {ifs : List Expr} {scope : Scope} {own : List (Str × Nat)} {pos spos : Pos} (hc : X.calm = true) (hN : X.N.Nodup) (hy : X.N[i]? = some y) (hyl : X.env.scope.names.lookup y = some .local)
    (hsw : swapsWith (.ListComp elt [⟨tg, iter, ifs, 0⟩] scope pos) (some (.Name y py)) spos.line X.env = pure true) (hi : MI X W tg iter pi) (ok : BlkOk X.N X.env.scope scope own) {vs : List Nat} (hv : own.map (·.2) = vs) (hT : ∀ i ∈ T.slots, i ∈ vs)
    (hg : ∀ (s : Shared) (H : Hp) (C : Addr) (cl : List (Str × Addr)) (fp : List Addr), PG (X.blk s H scope (compEnvC scope cl C X.env) fp) tg (tgtG X.K T)) (ht : ∀ (s : Shared) (H : Hp) (C : Addr) (cl : List (Str × Addr)) (fp : List Addr), MTs (X.blk s H scope (compEnvC scope cl C X.env) fp) W0 ifs t)
    (he : ∀ (s : Shared) (H : Hp) (C : Addr) (cl : List (Str × Addr)) (fp : List Addr), ME (X.blk s H scope (compEnvC scope cl C X.env) fp) W0 elt el) (hs : ∀ x, foldedSetIterable iter X.env x = pure x := by intro _; rfl) :
    MS X W (.Assign [.Name y py] (.ListComp elt [⟨tg, iter, ifs, 0⟩] scope pos) spos) (sSet i (pLcG fin vs pi T t el)) := by
  subst hv
  exact PS.imp (ps_setLc (tt := tT X W0 t) (te := tM X W0 el) hc hN hy hyl hsw hi ok hg ht he hs) fun D σ H ⟨w, m, e, r, g, ev, h, q⟩ => lc_of hfin hT (tM_bndS (W := W) g ev h q fun d m1 w1 v H1 h1 g1 x1 r1 ev1 q1 => by
    cases h1
    exact q1 w1 _ H1 g1 Ext.refl (ev1.set r1))
end

/-! ### lists that will change -/
def rcMk (X : Cx) (o : List D → Mem → Option (List D)) : List V → Hp → VK → Prop := fun xs H Q => ∃ w m ds l, Good X.K w H m ∧ RepL X.K w H ds xs ∧ o ds m = some l ∧ ∀ w' v H', Good X.K w' H' (m ++ [.lst l]) → Ext X.K w H w' H' → Rep X.K w' H' (.loc m.length) v → Q v H'
def r2mk (X : Cx) (o : D → D → Mem → Option (List D)) : R2 := fun x y H Q => ∃ w m d e l, Good X.K w H m ∧ Rep X.K w H d x ∧ Rep X.K w H e y ∧ o d e m = some l ∧ ∀ w' v H', Good X.K w' H' (m ++ [.lst l]) → Ext X.K w H w' H' → Rep X.K w' H' (.loc m.length) v → Q v H'
def liftM (r : Option (List D)) (m : Mem) : Option (Out D) := match r with
  | some l => some (.ok (.loc m.length) (m ++ [.lst l]))
  | none => none
theorem liftM_some {r : Option (List D)} {m : Mem} {o : Out D} (h : liftM r m = some o) : ∃ l, r = some l ∧ o = .ok (.loc m.length) (m ++ [.lst l]) := by
  cases r with
  | none => cases h
  | some d => cases h; exact ⟨d, rfl, rfl⟩
def pCallM (o : List D → Mem → Option (List D)) (p : PAF) : PEF := fun e m => bnd (p e m) fun ds m1 => liftM (o ds m1) m1
def pBinM (o : D → D → Mem → Option (List D)) (p q : PEF) : PEF := fun e m => bnd (p e m) fun a m1 => bnd (q e m1) fun b m2 => liftM (o a b m2) m2
def oListL (ds : List D) (m : Mem) : Option (List D) := match ds with
  | [.tup l] => some l
  | [a] => asL m a
  | _ => none
def oRepL (a b : D) (m : Mem) : Option (List D) := match asH m a, b with
  | some l, .int k => if -(2 ^ 63) ≤ k ∧ k < 2 ^ 63 ∧ l.length * k.toNat ≤ SL then some (List.replicate k.toNat l).flatten else none
  | _, _ => none
def oCatL (a b : D) (m : Mem) : Option (List D) := match asH m a, asH m b with
  | some l, some r => if l.length + r.length ≤ SL then some (l ++ r) else none
  | _, _ => none
section
variable {X : Cx} {W : WX} {x : Str} {p pos : Pos} {e a b : Expr} {es : List Expr} {q : PAF} {p1 p2 : PEF} {T : String}
theorem new_cell {K : PySem.W.Frag} {w : Wd} {H : Hp} {m : Mem} {p : Addr} {l : List D} {xs : List V} (g : Good K w H m) (hp : H p = none) (r : RepL K w H l xs) : ∃ w', Good K w' (upd H p (.lst xs)) (m ++ [.lst l]) ∧ Ext K w H w' (upd H p (.lst xs)) ∧ Rep K w' (upd H p (.lst xs)) (.loc m.length) (.ref p) :=
  ⟨w.push p, g.newL hp r, (Ext.new g hp).trans Ext.push, rep_push g⟩
theorem cr_listM : CallR X (.type "list") (rcMk X oListL) := by
  intro pins s σ H xs us Q I r h
  obtain ⟨w, m, ds, l, g, hd, h, q⟩ := h
  unfold oListL at h
  split at h
  · cases h
    obtain ⟨v, rfl, rv⟩ := repL1 hd
    obtain ⟨a, ys, rfl, ha, hl⟩ := asT_rep rv rfl
    exact call_list_of pins s σ H _ us Q I r ⟨a, ys, rfl, .inr ha, fun p hp => by
      obtain ⟨w', g', x', r'⟩ := new_cell g hp hl
      exact q w' _ _ g' x' r'⟩
  · obtain ⟨v, rfl, rv⟩ := repL1 hd
    obtain ⟨a, ys, rfl, ha, hl⟩ := asL_rep g rv h
    exact call_list_of pins s σ H _ us Q I r ⟨a, ys, rfl, .inl ha, fun p hp => by
      obtain ⟨w', g', x', r'⟩ := new_cell g hp hl
      exact q w' _ _ g' x' r'⟩
  · cases h
theorem op_repM : OpR X (binaryOp .Mult) (r2mk X oRepL) := by
  intro pins s σ H x y v u Q I rx ry h
  obtain ⟨w, m, d, e, l, g, hx, hy, h, q⟩ := h
  unfold oRepL at h
  split at h
  · rename_i l' k hl
    split at h
    · rename_i hf
      cases h
      obtain rfl := rep_int hy
      obtain ⟨a, xs, rfl, ha, hr⟩ := asH_rep g hx hl
      refine op_rep pins s σ H _ _ v u Q I rx ry ⟨a, _, xs, rfl, rfl, ha, hf.1, hf.2.1, by rw [hr.len, ← SL_eq]; exact hf.2.2, fun p hp => ?_⟩
      obtain ⟨w', g', x', r'⟩ := new_cell g hp (rep_flat hr k.toNat)
      exact q w' _ _ g' x' r'
    · cases h
  · cases h
theorem op_catM : OpR X (binaryOp .Add) (r2mk X oCatL) := by
  intro pins s σ H x y v u Q I rx ry h
  obtain ⟨w, m, d, e, l, g, hx, hy, h, q⟩ := h
  unfold oCatL at h
  split at h
  · rename_i l' r' hl hr
    split at h
    · rename_i hz
      cases h
      obtain ⟨a, xs, rfl, ha, hl⟩ := asH_rep g hx hl
      obtain ⟨b, ys, rfl, hb, hr⟩ := asH_rep g hy hr
      refine op_cat pins s σ H _ _ v u Q I rx ry ⟨a, b, xs, ys, rfl, rfl, ha, hb, by rw [hl.len, hr.len, ← SL_eq]; exact hz, fun p hp => ?_⟩
      obtain ⟨w', g', x', r'⟩ := new_cell g hp (hl.append hr)
      exact q w' _ _ g' x' r'
    · cases h
  · cases h
theorem me_listM {o : List D → Mem → Option (List D)} (hc : CallR X (.type T) (rcMk X o)) (hg : Gl X x) (hm : X.mg x = none) (hv : bootBuiltins x = some (.type T)) (ha : MA X W (e :: es) q) (hn : x ≠ "__name__" := by decide) (hdb : (x == ("__debug__" : Str)) = false := by decide)
    (he : starEach (e :: es) X.env = (false, eval e X.env) :: starEach es X.env := by rfl) (hpl : (backTo pos (starEach es X.env)).any (·.1) = false := by rfl) : ME X W (.Call (.Name x p) (e :: es) [] pos) (pCallM o q) :=
  PE.imp (pe_callTy hc hg hm hv ha hn hdb he hpl) fun σ H Q ⟨w, m, e, r, g, ev, h, qq⟩ => by
    refine tA_bnd g ev h qq fun d1 m1 w1 v1 H1 h1 g1 x1 r1 ev1 q1 => ?_
    obtain ⟨d, hd, rfl⟩ := liftM_some h1
    exact ⟨w1, m1, d1, d, g1, r1, hd, q1⟩
theorem me_binM {op : Operator} {o : D → D → Mem → Option (List D)} (ho : OpR X (binaryOp op) (r2mk X o)) (ha : ME X W a p1) (hb : ME X W b p2) : ME X W (.BinOp a op b pos) (pBinM o p1 p2) :=
  PE.imp (pe_op ho ha hb) fun σ H Q ⟨w, m, e, r, g, ev, h, qq⟩ => by
    refine tM_bnd g ev h qq fun d1 m1 w1 v1 H1 h1 g1 x1 r1 ev1 q1 => ?_
    refine tM_bnd g1 ev1 h1 q1 fun d2 m2 w2 v2 H2 h2 g2 x2 r2 ev2 q2 => ?_
    obtain ⟨d, hd, rfl⟩ := liftM_some h2
    exact ⟨w2, m2, d1, d2, d, g2, r1.mono x2, r2, hd, q2⟩
end

/-! ### defs and calls -/
abbrev Fn := List D → Mem → Option (Out D)
def PostC (K : PySem.W.Frag) (mg : Str → Option Value) (w : Wd) (H : Hp) (Q : VK) (E : XK) : Out D → Prop
  | .ok d m => ∀ w' v H', Good K w' H' m → Ext K w H w' H' → Rep K w' H' d v → Q v H'
  | .exc c m => ∀ w' H' C, Good K w' H' m → Ext K w H w' H' → mg c = some (.ref C) → E (.ref C) none H'
def spF (K : PySem.W.Frag) (mg : Str → Option Value) (n : Nat) (f : Fn) : Sp := fun vs H Q E => ∃ w m ds r, Good K w H m ∧ RepL K w H ds vs ∧ ds.length = n ∧ f ds m = some r ∧ PostC K mg w H Q E r
def pFn (n : Nat) (b : PSF) : Fn := fun ds m => match b (startE n ds) m with
  | some (.rt d m1) => some (.ok d m1)
  | some (.nx _ m1) => some (.ok .non m1)
  | some (.exc c _ m1) => some (.exc c m1)
  | _ => none
theorem fnone_ok {P : Program} {w : World} {K : PySem.W.Frag} {mg : Str → Option Value} {base : Heap} {k n : Nat} {a : Addr} {fd : FuncData} {ps : List Str} : FnOk P w K mg base (CX P w) k a fd ps (spF K mg n fun _ _ => none) :=
  ⟨fun vs H Q E ⟨_, _, _, _, _, _, _, h, _⟩ => (nomatch h), fun A outer s H args us vs Q E hr e hb r ⟨_, _, _, _, _, _, _, h, _⟩ => (nomatch h)⟩
/-- a def that may be called by its name -/
structure FnA (P : Program) (w : World) (K : PySem.W.Frag) (mg : Str → Option Value) (base : Heap) (x : Str) (k n : Nat) (f : Fn) : Prop where
  ex : ∃ (a : Addr) (fd : FuncData) (ps : List Str), FnOk P w K mg base (CX P w) k a fd ps (spF K mg n f) ∧ mg x = some (.ref a) ∧ PySem.W.keepIn K (.ref a) = true ∧ Binds K fd ps []
/-- a def of the text where it stands -/
structure Txt1 (K : PySem.W.Frag) (mg : Str → Option Value) (x : Str) (st : Stmt) : Prop where
  ex : ∃ (a : Addr) (fd : FuncData), FunD K x x (defArgs st) (defBody st) (defScope st) [] [] a fd ∧ mg x = some (.ref a)
abbrev bodyCx (P : Program) (w : World) (K : PySem.W.Frag) (mg : Str → Option Value) (base : Heap) (N : List Str) (x : Str) (st : Stmt) (f : Addr) (cdv : Value) (A : Around) (outer : List Env) (s : Shared) (H : Hp) (E : XK) : Cx :=
  cxOf (CX P w) P w K mg base N x (defScope st) f cdv A outer s H E
abbrev WE0 (E : XK) : WX := fun cls d _ H => E cls d H
section
variable {P : Program} {w : World} {K : PySem.W.Frag} {mg : Str → Option Value} {base : Heap} {x : Str} {st : Stmt} {N ps : List Str} {k : Nat} {b : PSF}
theorem fn_at {a : Addr} {fd : FuncData} (F : FunD K x x (defArgs st) (defBody st) (defScope st) [] [] a fd) (S : FnScope N ps (defScope st))
    (hb : ∀ (f : Addr) (cdv : Value) (A : Around) (outer : List Env) (s : Shared) (H : Hp) (E : XK), Room k (A.deeper (envOfC x (defScope st) s.heap.objs.size f cdv)) → MSs (bodyCx P w K mg base N x st f cdv A outer s H E) (WE0 E) (defBody st) b) :
    FnOk P w K mg base (CX P w) (k + 1) a fd ps (spF K mg ps.length (pFn N.length b)) := by
  refine F.ok S (fun vs H Q E ⟨w', m, ds, r, g, hd, hl, h, q⟩ => by rw [hd.len]; exact hl) (fun cdv A outer s H vs Q E hr ⟨w', m, ds, r, g, hd, hl, h, q⟩ => ⟨_, hb a cdv A outer s H E hr, ?_⟩)
  unfold pFn at h
  have ev : EvR K w' H (startE N.length ds) (L2.start N vs) := EvR.start hd
  cases hbv : b (startE N.length ds) m with
  | none => rw [hbv] at h; cases h
  | some u =>
    rw [hbv] at h
    refine ⟨w', m, startE N.length ds, u, g, ev, hbv, ?_⟩
    cases u with
    | rt d m1 => cases h; exact fun w1 v1 H1 g1 x1 r1 => q w1 v1 H1 g1 x1 r1
    | nx e m1 => cases h; exact fun w1 σ1 H1 g1 x1 r1 => q w1 .non H1 g1 x1 (by simp only [Rep])
    | exc c e m1 => cases h; exact fun w1 σ1 H1 C g1 x1 _ hc => q w1 H1 C g1 x1 hc
    | bk _ _ => cases h
    | ct _ _ => cases h
theorem fn_ok (T : Txt1 K mg x st) (S : FnScope N ps (defScope st))
    (hbd : ∀ (kV doc pm : Value) (an : Option Addr) (cdv ct : Value) (us : List Value), us.length = ps.length → bindArgs (PySem.W.fnOf x x (defArgs st) (defBody st) (defScope st) .none kV doc pm an cdv ct) ⟨us, []⟩ = pure (ps.zip us))
    (hb : ∀ (f : Addr) (cdv : Value) (A : Around) (outer : List Env) (s : Shared) (H : Hp) (E : XK), Room k (A.deeper (envOfC x (defScope st) s.heap.objs.size f cdv)) → MSs (bodyCx P w K mg base N x st f cdv A outer s H E) (WE0 E) (defBody st) b) :
    FnA P w K mg base x (k + 1) ps.length (pFn N.length b) := by
  obtain ⟨a, fd, F, hm⟩ := T.ex
  exact ⟨a, fd, ps, fn_at F S hb, hm, F.kp, FunD.bindsN F hbd⟩
theorem FnA.mono {k' n : Nat} {f : Fn} (F : FnA P w K mg base x k n f) (h : k ≤ k') : FnA P w K mg base x k' n f := by
  obtain ⟨a, fd, ps, h1, h2⟩ := F.ex
  exact ⟨a, fd, ps, h1.mono h, h2⟩
/-- nothing is said of it -/
theorem fn_none {n : Nat} (T : Txt1 K mg x st) (hbd : ∀ (kV doc pm : Value) (an : Option Addr) (cdv ct : Value) (us : List Value), us.length = ps.length → bindArgs (PySem.W.fnOf x x (defArgs st) (defBody st) (defScope st) .none kV doc pm an cdv ct) ⟨us, []⟩ = pure (ps.zip us)) : FnA P w K mg base x k n (fun _ _ => none) := by
  obtain ⟨a, fd, F, hm⟩ := T.ex
  exact ⟨a, fd, ps, fnone_ok, hm, F.kp, FunD.bindsN F hbd⟩
/-- another function that says as much -/
theorem FnA.imp {n : Nat} {f f' : Fn} (F : FnA P w K mg base x k n f) (h : ∀ ds m r, f' ds m = some r → f ds m = some r) : FnA P w K mg base x k n f' := by
  obtain ⟨a, fd, ps, h1, h2⟩ := F.ex
  exact ⟨a, fd, ps, h1.imp fun vs H Q E ⟨w', m, ds, r, g, hd, hl, hf, q⟩ => ⟨w', m, ds, r, g, hd, hl, h _ _ _ hf, q⟩, h2⟩
end
def pApp (f : Fn) (n : Nat) (p : PAF) : PEF := fun e m => bnd (p e m) fun ds m1 => if ds.length = n then f ds m1 else none
/-- what a callee lets out is taken -/
abbrev Tk (X : Cx) (W : WX) : Prop := ∀ σ, PassesAt (CX X.prog X.w) X σ (WE W σ)
theorem tkB {X : Cx} : Tk X W0 := fun σ pins H s e s' I h => by
  obtain ⟨_, _, _, _, _, _, _, _, _, _, _, _, z⟩ := h
  exact z.elim
theorem tkD {P : Program} {w : World} {K : PySem.W.Frag} {mg : Str → Option Value} {base : Heap} {N : List Str} {x : Str} {st : Stmt} {f : Addr} {cdv : Value} {A : Around} {outer : List Env} {s : Shared} {H : Hp} {E : XK} :
    Takes (bodyCx P w K mg base N x st f cdv A outer s H E) (WE0 E) := takes_of rfl rfl rfl rfl
section
variable {X : Cx} {W : WX} {k n : Nat} {x : Str} {f : Fn} {p pos : Pos} {e : Expr} {es : List Expr} {pa : PAF}
theorem me_call {j : Nat} (F : FnA X.prog X.w X.K X.mg X.base x k n f) (hr : Room j X.A) (hk : k ≤ j) (tk : Tk X W) (hg : Gl X x) (ha : MA X W (e :: es) pa) (hdb : (x == ("__debug__" : Str)) = false := by decide) (he : starEach (e :: es) X.env = (false, eval e X.env) :: starEach es X.env := by rfl)
    (hpl : (backTo pos (starEach es X.env)).any (·.1) = false := by rfl) : ME X W (.Call (.Name x p) (e :: es) [] pos) (pApp f n pa) := by
  obtain ⟨a, fd, ps, h1, h2, h3, h4⟩ := F.ex
  refine PE.imp (pe_callS h1 (hr.mono hk) hg h2 h3 h4 tk ha hdb he hpl) fun σ H Q ⟨w, m, ev', r, g, ev, h, q⟩ => ?_
  show tA X W pa σ H fun vs H1 => spF X.K X.mg n f vs H1 Q (WE W σ)
  refine tA_bnd g ev h q fun d1 m1 w1 v1 H1 h1 g1 x1 r1 ev1 q1 => ?_
  split at h1
  · rename_i hl
    refine ⟨w1, m1, d1, r, g1, r1, hl, h1, ?_⟩
    cases r with
    | ok d m2 => exact q1
    | exc c m2 => exact fun w2 H2 C g2 x2 hc => q1 w2 H2 C g2 x2 hc
  · cases h1
theorem me_call0 {j : Nat} (F : FnA X.prog X.w X.K X.mg X.base x k 0 f) (hr : Room j X.A) (hk : k ≤ j) (hg : Gl X x) (hdb : (x == ("__debug__" : Str)) = false := by decide) : ME X W (.Call (.Name x p) [] [] pos) (pApp (fun ds m => match f ds m with
    | some (.ok d m1) => some (.ok d m1)
    | _ => none) 0 pNil) := by
  obtain ⟨a, fd, ps, h1, h2, h3, h4⟩ := F.ex
  refine PE.imp (pe_call0 (E := E0) h1 (hr.mono hk) hg h2 h3 h4 (dvs := []) .nil passL hdb) fun σ H Q ⟨w, m, ev', r, g, ev, h, q⟩ => ?_
  show spF X.K X.mg 0 f ([] ++ []) H Q E0
  unfold pApp pNil at h
  have h : (match f [] m with
    | some (.ok d m1) => some (Out.ok d m1)
    | _ => none) = some r := h
  cases hf : f [] m with
  | none => rw [hf] at h; cases h
  | some o =>
    rw [hf] at h
    cases o with
    | exc _ _ => cases h
    | ok d m1 => cases h; exact ⟨w, m, [], _, g, RepL.nil, rfl, hf, q⟩
end
end Z
namespace Z
open PySem PySem.Spec PyProof.Rows L2
theorem hu65 {k : Nat} {A : Around} (r : Room k A) : A.units + 65 < cLine := by have := r.un; omega
def fuel0 : Ev → Mem → Nat := fun _ _ => 1000000
def evI (e : Ev) (i : Nat) : Int := match e[i]? with
  | some (some (.int j)) => j
  | _ => 0
def okOnly (f : Fn) : Fn := fun ds m => match f ds m with
  | some (.ok d m1) => some (.ok d m1)
  | _ => none
/-- a constant of the module -/
structure Con1 (K : PySem.W.Frag) (mg : Str → Option Value) (x : Str) (d : D) : Prop where
  ex : ∃ (u : Value) (v : V), mg x = some u ∧ RelV v u ∧ ∀ w H, Rep K w H d v
theorem me_con {X : Cx} {W : WX} {x : Str} {d : D} {pos : Pos} (c : Con1 X.K X.mg x d) (hg : Gl X x) (hd : (x == ("__debug__" : Str)) = false := by decide) : ME X W (.Name x pos) (pC d) := by
  obtain ⟨u, v, h1, h2, h3⟩ := c.ex
  exact me_glob hg h1 h2 h3 hd
theorem con_tup {K : PySem.W.Frag} {w : Wd} {H : Hp} {a : Addr} {xs : List V} {l : List D} (h : SqT K H a xs) (r : RepL K w H l xs) : Rep K w H (.tup l) (.ref a) := rep_tup h r
/-- the law's own promise, from its mirror -/
theorem law_sp {K : PySem.W.Frag} {mg : Str → Option Value} {f : Fn} {n : Nat} (hlaw : ∀ ns : List Int, ns.length ≤ n → (∀ z ∈ ns, Builtin.Int.intBits z ≤ 1048576) → ∃ m, f [.ro (ns.map D.int)] [] = some (.ok (.bl true) m)) (H : Hp) (a : Addr) (ns : List Int) (hl : ns.length ≤ n) (hb : ∀ z ∈ ns, Builtin.Int.intBits z ≤ 1048576) (hO : Only H) (hS : SqL K H a (ns.map V.int)) :
    spF K mg 1 f [.ref a] H (fun v _ => v = .bl true) fun _ _ _ => False := by
  obtain ⟨m, hm⟩ := hlaw ns hl hb
  have hR : SqR K H a (ns.map V.int) := by
    rcases hS with (h | h) | h
    · rcases hO a with z | ⟨o, xs, z⟩
      · rw [z] at h; cases h
      · rw [z] at h; cases h
    · exact .inl h
    · exact .inr h
  refine ⟨⟨[], fun _ => False, fun _ => False⟩, [], [.ro (ns.map D.int)], _, ⟨rfl, List.nodup_nil, fun i c b h => by simp at h, fun _ h => h.elim, fun _ h => h.elim⟩, ?_, rfl, hm, fun w' v H' _ _ r => rep_bl r⟩
  refine RepL.cons ?_ RepL.nil
  simp only [Rep]
  exact ⟨a, _, rfl, .inl hR, RepL.of_ints⟩
theorem cx_none (H : Hp) (s : Shared) {P : Program} {w : World} (e : Value) (s' : Shared) (h : CX P w [] H s (fun _ _ _ => False) e s') : False := by
  obtain ⟨_, _, _, _, _, _, _, _, _, _, _, _, z⟩ := h
  exact z
theorem walk_ofZ {l : PySem.W.OpenLaw} {n k : Nat} {q : Program} {loose : List Str} {XP : (Str → Option Value) → Heap → Prop} {YP : World → Heap → Prop} {d : DefRec} {CX : World → CXT} {x : Str}
    (hn : l.most = some n) (hn2 : n ≤ sizeLine) (hdf : d.params.defaults = []) (hr : Room k callerA)
    (F : ∀ (w : World) (mg : Str → Option Value) (fa : Addr) (h : Heap), YP w h → h.Ns mainGlobals mg → mg d.name = some (.ref fa) →
      ∃ (K : PySem.W.Frag) (fd : FuncData) (sp : Sp), K.In h ∧ (∀ (s : Shared) (u : Value), BindsTo s fd ⟨[u], []⟩ [(x, u)]) ∧
        (∀ (H : Hp) (a : Addr) (ns : List Int), ns.length ≤ n → (∀ z ∈ ns, Builtin.Int.intBits z ≤ 1048576) → Only H → SqL K H a (ns.map V.int) → sp [.ref a] H (fun v _ => v = .bl true) fun _ _ _ => False) ∧
        ∀ base : Heap, K.In base → base.Ns mainGlobals mg → FnOk l.prog w K mg base (CX w) k fa fd [x] sp)
    (hCX : ∀ (w : World) (H : Hp) (s : Shared) (e : Value) (s' : Shared), CX w [] H s (fun _ _ _ => False) e s' → False) :
    PySem.W.WalkO q loose XP YP l.row.toRowW d [] (fun f vs => PySem.call f vs) := by
  refine Att.attach_callB hn hdf fun w s₀ s₁ mg mb fa o pm cd doc a vs ns G Y ho hd hcd hmg hobj hints hlen hbits hg => ?_
  obtain ⟨K, fd, sp, KX, hb, hsp, hF⟩ := F w mg fa _ Y G.T.g hmg
  exact law_call KX G.T.g G.T.b G.T.builtins G.T.nolimit hg hobj hints (Nat.le_trans hlen hn2) hr hF hb (fun H hO hS => hsp H a ns hlen hbits hO hS) fun H e s' => hCX w H s₁ e s'
end Z

set_option maxRecDepth 100000
set_option maxHeartbeats 4000000
set_option autoImplicit false
namespace Z
open PySem PySem.Spec PyProof.Rows L2
/-! ### the mirrors' own arithmetic: rows for simp -/
section
variable {α β : Type} {a : α} {m : Mem} {c : Str} {e e1 : Ev} {d d1 d2 : D}
@[simp] theorem bnd_ok (k : α → Mem → Option (Out β)) : bnd (some (.ok a m)) k = k a m := id rfl
@[simp] theorem bnd_exc (k : α → Mem → Option (Out β)) : bnd (some (.exc c m)) k = some (.exc c m) := id rfl
@[simp] theorem bnd_none (k : α → Mem → Option (Out β)) : bnd none k = none := id rfl
@[simp] theorem bndS_ok (k : α → Mem → Option SOut) : bndS (some (.ok a m)) e k = k a m := id rfl
@[simp] theorem bndS_exc (k : α → Mem → Option SOut) : bndS (some (.exc c m)) e k = some (.exc c e m) := id rfl
@[simp] theorem bndS_none (k : α → Mem → Option SOut) : bndS none e k = none := id rfl
@[simp] theorem thenS_nx (k : Ev → Mem → Option SOut) : thenS (some (.nx e m)) k = k e m := id rfl
@[simp] theorem thenS_rt (k : Ev → Mem → Option SOut) : thenS (some (.rt d m)) k = some (.rt d m) := id rfl
@[simp] theorem thenS_bk (k : Ev → Mem → Option SOut) : thenS (some (.bk e m)) k = some (.bk e m) := id rfl
@[simp] theorem thenS_ct (k : Ev → Mem → Option SOut) : thenS (some (.ct e m)) k = some (.ct e m) := id rfl
@[simp] theorem thenS_exc (k : Ev → Mem → Option SOut) : thenS (some (.exc c e m)) k = some (.exc c e m) := id rfl
@[simp] theorem thenS_none (k : Ev → Mem → Option SOut) : thenS none k = none := id rfl
theorem thenS_ite {P : Prop} [Decidable P] (a b : Option SOut) (k : Ev → Mem → Option SOut) : thenS (if P then a else b) k = if P then thenS a k else thenS b k := by split <;> rfl
end
section
variable {e : Ev} {m : Mem} {p q r : PEF} {t u : PTF} {pa : PAF} {s s1 s2 : PSF}
def rdV (o : Option (Option D)) (m : Mem) : Option (Out D) := match o with
  | some (some d) => some (.ok d m)
  | _ => none
@[simp] theorem rdV_some (d : D) : rdV (some (some d)) m = some (.ok d m) := id rfl
@[simp] theorem pVar_app (i : Nat) : pVar i e m = rdV e[i]? m := id rfl
@[simp] theorem pC_app (d : D) : pC d e m = some (.ok d m) := id rfl
@[simp] theorem pBin_app (o : VK2) : pBin o p q e m = bnd (p e m) fun a m1 => bnd (q e m1) fun b m2 => lift1 (o a b m2) m2 := id rfl
@[simp] theorem pUn_app (o : D → Mem → Option D) : pUn o p e m = bnd (p e m) fun d m1 => lift1 (o d m1) m1 := id rfl
@[simp] theorem pCall_app (o : List D → Mem → Option D) : pCall o pa e m = bnd (pa e m) fun ds m1 => lift1 (o ds m1) m1 := id rfl
@[simp] theorem pCallM_app (o : List D → Mem → Option (List D)) : pCallM o pa e m = bnd (pa e m) fun ds m1 => liftM (o ds m1) m1 := id rfl
@[simp] theorem pBinM_app (o : D → D → Mem → Option (List D)) : pBinM o p q e m = bnd (p e m) fun a m1 => bnd (q e m1) fun b m2 => liftM (o a b m2) m2 := id rfl
@[simp] theorem pApp_app (f : Fn) (n : Nat) : pApp f n pa e m = bnd (pa e m) fun ds m1 => if ds.length = n then f ds m1 else none := id rfl
@[simp] theorem pTup_app : pTup pa e m = bnd (pa e m) fun ds m1 => if ds.length ≤ SL then some (.ok (.tup ds) m1) else none := id rfl
@[simp] theorem pLst_app : pLst pa e m = bnd (pa e m) fun ds m1 => if ds.length ≤ SL then some (.ok (.lst ds) m1) else none := id rfl
@[simp] theorem pLstM_app : pLstM pa e m = bnd (pa e m) fun ds m1 => if ds.length ≤ SL then some (.ok (.loc m1.length) (m1 ++ [.lst ds])) else none := id rfl
@[simp] theorem pNil_app : pNil e m = some (.ok [] m) := id rfl
@[simp] theorem pCons_app : pCons p pa e m = bnd (p e m) fun d m1 => bnd (pa e m1) fun ds m2 => some (.ok (d :: ds) m2) := id rfl
@[simp] theorem pTru_app : pTru p e m = bnd (p e m) fun d m1 => toOk (oTru d m1) m1 := id rfl
@[simp] theorem pTst_app : pTst p e m = bnd (p e m) fun d m1 => toOk (asB d) m1 := id rfl
@[simp] theorem pAndT_app : pAndT t u e m = bnd (t e m) fun b m1 => if b = true then u e m1 else some (.ok false m1) := id rfl
@[simp] theorem pOrT_app : pOrT t u e m = bnd (t e m) fun b m1 => if b = true then some (.ok true m1) else u e m1 := id rfl
@[simp] theorem pNotT_app : pNotT t e m = bnd (t e m) fun b m1 => some (.ok (!b) m1) := id rfl
@[simp] theorem pIf_app : pIf t p q e m = bnd (t e m) fun b m1 => if b = true then p e m1 else q e m1 := id rfl
def andV (o : Option Bool) (d : D) (m : Mem) (k : Mem → Option (Out D)) : Option (Out D) := match o with
  | some true => k m
  | some false => some (.ok d m)
  | none => none
def orV (o : Option Bool) (d : D) (m : Mem) (k : Mem → Option (Out D)) : Option (Out D) := match o with
  | some true => some (.ok d m)
  | some false => k m
  | none => none
@[simp] theorem andV_t (d : D) (k : Mem → Option (Out D)) : andV (some true) d m k = k m := id rfl
@[simp] theorem andV_f (d : D) (k : Mem → Option (Out D)) : andV (some false) d m k = some (.ok d m) := id rfl
theorem andV_ite (b : Bool) (d : D) (k : Mem → Option (Out D)) : andV (some b) d m k = if b = true then k m else some (.ok d m) := by cases b <;> rfl
@[simp] theorem orV_t (d : D) (k : Mem → Option (Out D)) : orV (some true) d m k = some (.ok d m) := id rfl
@[simp] theorem orV_f (d : D) (k : Mem → Option (Out D)) : orV (some false) d m k = k m := id rfl
theorem orV_ite (b : Bool) (d : D) (k : Mem → Option (Out D)) : orV (some b) d m k = if b = true then some (.ok d m) else k m := by cases b <;> rfl
@[simp] theorem pAndV_app : pAndV p q e m = bnd (p e m) fun d m1 => andV (oTru d m1) d m1 fun m2 => q e m2 := id rfl
@[simp] theorem pOrV_app : pOrV p q e m = bnd (p e m) fun d m1 => orV (oTru d m1) d m1 fun m2 => q e m2 := id rfl
@[simp] theorem pNotV_app : pNotV p e m = bnd (p e m) fun d m1 => lift1 (toNbl (oTru d m1)) m1 := id rfl
@[simp] theorem pFrz_app : pFrz p e m = bnd (p e m) fun d m1 => some (frzD d m1) := id rfl
def chV (o : Option D) (m : Mem) (k : Mem → Option (Out D)) : Option (Out D) := match o with
  | some (.bl true) => k m
  | some (.bl false) => some (.ok (.bl false) m)
  | _ => none
@[simp] theorem chV_bl (b : Bool) (k : Mem → Option (Out D)) : chV (some (.bl b)) m k = if b = true then k m else some (.ok (.bl false) m) := by cases b <;> rfl
@[simp] theorem pChain_app (o o' : VK2) : pChain o o' p q r e m = bnd (p e m) fun a m1 => bnd (q e m1) fun b m2 => chV (o a b m2) m2 fun m3 => bnd (r e m3) fun c m4 => lift1 (o' b c m4) m4 := id rfl
def locD (d : D) (k : Nat → Option (Out D)) : Option (Out D) := match d with
  | .loc i => k i
  | _ => none
@[simp] theorem locD_loc (i : Nat) (k : Nat → Option (Out D)) : locD (.loc i) k = k i := id rfl
@[simp] theorem pMth_app (o : Nat → D → Mem → Option (Out D)) : pMth o p q e m = bnd (p e m) fun a m1 => locD a fun i => bnd (q e m1) fun b m2 => o i b m2 := id rfl
@[simp] theorem pMth0_app (o : Nat → Mem → Option (Out D)) : pMth0 o p e m = bnd (p e m) fun a m1 => locD a fun i => o i m1 := id rfl
@[simp] theorem lift1_s (d : D) : lift1 (some d) m = some (.ok d m) := id rfl
@[simp] theorem liftM_s (l : List D) : liftM (some l) m = some (.ok (.loc m.length) (m ++ [.lst l])) := id rfl
@[simp] theorem toOk_s (b : Bool) : toOk (some b) m = some (.ok b m) := id rfl
@[simp] theorem asB_bl (b : Bool) : asB (.bl b) = some b := id rfl
@[simp] theorem toBl_s (b : Bool) : toBl (some b) = some (.bl b) := id rfl
@[simp] theorem toNbl_s (b : Bool) : toNbl (some b) = some (.bl (!b)) := id rfl
@[simp] theorem oTru_non : oTru .non m = some false := id rfl
@[simp] theorem oTru_bl (b : Bool) : oTru (.bl b) m = some b := id rfl
@[simp] theorem oTru_int (i : Int) : oTru (.int i) m = some (i != 0) := id rfl
@[simp] theorem oTru_tup (l : List D) : oTru (.tup l) m = some (!l.isEmpty) := id rfl
@[simp] theorem oTru_lst (l : List D) : oTru (.lst l) m = some (!l.isEmpty) := id rfl
/-! statements -/
@[simp] theorem sSeq_app : sSeq s1 s2 e m = thenS (s1 e m) s2 := id rfl
@[simp] theorem sRet_app : sRet p e m = bndS (p e m) e fun d m1 => some (.rt d m1) := id rfl
@[simp] theorem sExpr_app : sExpr p e m = bndS (p e m) e fun _ m1 => some (.nx e m1) := id rfl
@[simp] theorem sNop_app : sNop e m = some (.nx e m) := id rfl
@[simp] theorem sBrk_app : sBrk e m = some (.bk e m) := id rfl
@[simp] theorem sCnt_app : sCnt e m = some (.ct e m) := id rfl
@[simp] theorem sIf_app : sIf t s1 s2 e m = bndS (t e m) e fun b m1 => if b = true then s1 e m1 else s2 e m1 := id rfl
@[simp] theorem sSet_app (i : Nat) : sSet i p e m = bndS (p e m) e fun d m1 => some (.nx (e.set i (some d)) m1) := id rfl
def augS (o : VK2) (i : Nat) (x : Option (Option D)) (p : PEF) (e : Ev) (m : Mem) : Option SOut := match x with
  | some (some d) => bndS (p e m) e fun c m1 => match o d c m1 with
    | some r => some (.nx (e.set i (some r)) m1)
    | none => none
  | _ => none
def nxO (o : Option D) (k : D → Option SOut) : Option SOut := match o with
  | some d => k d
  | none => none
@[simp] theorem nxO_s (d : D) (k : D → Option SOut) : nxO (some d) k = k d := id rfl
@[simp] theorem augS_some (o : VK2) (i : Nat) (d : D) : augS o i (some (some d)) p e m = bndS (p e m) e fun c m1 => nxO (o d c m1) fun r => some (.nx (e.set i (some r)) m1) := id rfl
@[simp] theorem sAug_app (i : Nat) (o : VK2) : sAug i o p e m = augS o i e[i]? p e m := id rfl
@[simp] theorem sPar_app (is : List Nat) : sPar is pa e m = bndS (pa e m) e fun ds m1 => if ds.length = is.length then some (.nx (setAll is ds e) m1) else none := id rfl
@[simp] theorem setAll_nil (ds : List D) : setAll [] ds e = e := id rfl
@[simp] theorem setAll_cons (i : Nat) (is : List Nat) (d : D) (ds : List D) : setAll (i :: is) (d :: ds) e = setAll is ds (e.set i (some d)) := id rfl
def nxG (o : Option (Out Ev)) : Option SOut := match o with
  | some (.ok e1 m2) => some (.nx e1 m2)
  | _ => none
@[simp] theorem nxG_ok : nxG (some (.ok e m)) = some (.nx e m) := id rfl
@[simp] theorem sAsg_app (g : PGF) : sAsg g p e m = bndS (p e m) e fun d m1 => nxG (g d e m1) := id rfl
@[simp] theorem gN_app (i : Nat) (d : D) : gN i d e m = some (.ok (e.set i (some d)) m) := id rfl
@[simp] theorem gTp_app (n : Nat) (g : PGsF) (ds : List D) : gTp n g (.tup ds) e m = if ds.length = n then g ds e m else none := id rfl
@[simp] theorem gsNil_app : gsNil [] e m = some (.ok e m) := id rfl
def okG (o : Option (Out Ev)) (k : Ev → Mem → Option (Out Ev)) : Option (Out Ev) := match o with
  | some (.ok e1 m1) => k e1 m1
  | _ => none
@[simp] theorem okG_ok (k : Ev → Mem → Option (Out Ev)) : okG (some (.ok e m)) k = k e m := id rfl
@[simp] theorem gsCons_app (g : PGF) (r : PGsF) (d : D) (ds : List D) : gsCons g r (d :: ds) e m = okG (g d e m) fun e1 m1 => r ds e1 m1 := by
  show (match g d e m with
    | some (.ok e1 m1) => r ds e1 m1
    | _ => none) = _
  cases g d e m with
  | none => rfl
  | some o => cases o <;> rfl
def nxM (o : Option Mem) (k : Mem → Option SOut) : Option SOut := match o with
  | some d => k d
  | none => none
@[simp] theorem nxM_s (k : Mem → Option SOut) : nxM (some m) k = k m := id rfl
@[simp] theorem sPut_app (po pi : PEF) : sPut po pi p e m = bndS (p e m) e fun d m1 => bndS (po e m1) e fun a m2 => bndS (pi e m2) e fun b m3 => nxM (putAt a b d m3) fun m4 => some (.nx e m4) := id rfl
@[simp] theorem sPutAug_app (o : VK2) (po pi : PEF) : sPutAug o po pi p e m = bndS (po e m) e fun a m1 => bndS (pi e m1) e fun b m2 => nxO (getAt a b m2) fun c => bndS (p e m2) e fun d m3 => nxO (o c d m3) fun r => nxM (putAt a b r m3) fun m4 => some (.nx e m4) := id rfl
@[simp] theorem sFor_app (pi : PIF) (g : PGF) : sFor pi g s e m = bndS (pi e m) e fun ds m1 => loopF g s ds e m1 := id rfl
@[simp] theorem sWhile_app (fuel : Ev → Mem → Nat) : sWhile fuel t s e m = whileF t s (fuel e m) e m := id rfl
def ctn (r : Option SOut) (k : Ev → Mem → Option SOut) : Option SOut := match r with
  | some (.nx e2 m2) => k e2 m2
  | some (.ct e2 m2) => k e2 m2
  | some (.bk e2 m2) => some (.nx e2 m2)
  | r => r
@[simp] theorem ctn_nx (k : Ev → Mem → Option SOut) : ctn (some (.nx e m)) k = k e m := id rfl
@[simp] theorem ctn_ct (k : Ev → Mem → Option SOut) : ctn (some (.ct e m)) k = k e m := id rfl
@[simp] theorem ctn_bk (k : Ev → Mem → Option SOut) : ctn (some (.bk e m)) k = some (.nx e m) := id rfl
@[simp] theorem ctn_rt (d : D) (k : Ev → Mem → Option SOut) : ctn (some (.rt d m)) k = some (.rt d m) := id rfl
@[simp] theorem ctn_exc (c : Str) (k : Ev → Mem → Option SOut) : ctn (some (.exc c e m)) k = some (.exc c e m) := id rfl
theorem ctn_ite {P : Prop} [Decidable P] (a b : Option SOut) (k : Ev → Mem → Option SOut) : ctn (if P then a else b) k = if P then ctn a k else ctn b k := by split <;> rfl
theorem whileF_succ (n : Nat) : whileF t s (n + 1) e m = bndS (t e m) e fun k m1 => if k = true then ctn (s e m1) (whileF t s n) else some (.nx e m1) := rfl
@[simp] theorem loopF_nil (g : PGF) : loopF g s [] e m = some (.nx e m) := id rfl
def inG (o : Option (Out Ev)) (k : Ev → Mem → Option SOut) : Option SOut := match o with
  | some (.ok e1 m1) => k e1 m1
  | _ => none
@[simp] theorem inG_ok (k : Ev → Mem → Option SOut) : inG (some (.ok e m)) k = k e m := id rfl
theorem loopF_cons (g : PGF) (d : D) (ds : List D) : loopF g s (d :: ds) e m = inG (g d e m) fun e1 m1 => ctn (s e1 m1) (loopF g s ds) := by
  simp only [loopF]
  cases g d e m with
  | none => rfl
  | some o =>
    cases o with
    | exc _ _ => rfl
    | ok e1 m1 =>
      simp only [inG]
      cases s e1 m1 with
      | none => rfl
      | some o => cases o <;> rfl
/-! comprehensions -/
@[simp] theorem tYesF_app : tYesF e m = some (.ok true m) := id rfl
def okL (o : Option (Out (List D))) (k : List D → Mem → Option (Out (List D))) : Option (Out (List D)) := match o with
  | some (.ok l m) => k l m
  | _ => none
@[simp] theorem okL_ok (l : List D) (k : List D → Mem → Option (Out (List D))) : okL (some (.ok l m)) k = k l m := id rfl
def okD (o : Option (Out D)) (k : D → Mem → Option (Out (List D))) : Option (Out (List D)) := match o with
  | some (.ok l m) => k l m
  | _ => none
@[simp] theorem okD_ok (l : D) (k : D → Mem → Option (Out (List D))) : okD (some (.ok l m)) k = k l m := id rfl
def okB (o : Option (Out Bool)) (k : Bool → Mem → Option (Out (List D))) : Option (Out (List D)) := match o with
  | some (.ok l m) => k l m
  | _ => none
@[simp] theorem okB_ok (l : Bool) (k : Bool → Mem → Option (Out (List D))) : okB (some (.ok l m)) k = k l m := id rfl
def okE (o : Option Ev) (k : Ev → Option (Out (List D))) : Option (Out (List D)) := match o with
  | some e => k e
  | none => none
@[simp] theorem okE_s (k : Ev → Option (Out (List D))) : okE (some e) k = k e := id rfl
@[simp] theorem lcF_nil (T : Tgt) : lcF T t p e [] m = some (.ok [] m) := id rfl
theorem lcF_cons (T : Tgt) (d : D) (ds : List D) : lcF T t p e (d :: ds) m = okE (tgtE T d e) fun e1 => okB (t e1 m) fun b m2 => if b = true then okD (p e1 m2) fun y m3 => okL (lcF T t p e ds m3) fun ys m4 => some (.ok (y :: ys) m4) else lcF T t p e ds m2 := by
  simp only [lcF]
  cases tgtE T d e with
  | none => rfl
  | some e1 =>
    simp only [okE]
    cases t e1 m with
    | none => rfl
    | some o =>
      cases o with
      | exc _ _ => rfl
      | ok b m2 =>
        cases b with
        | false => rfl
        | true =>
          simp only [okB, if_true]
          cases p e1 m2 with
          | none => rfl
          | some o =>
            cases o with
            | exc _ _ => rfl
            | ok y m3 =>
              simp only [okD]
              cases lcF T t p e ds m3 with
              | none => rfl
              | some o => cases o <;> rfl
@[simp] theorem tgtE_n (i : Nat) (d : D) : tgtE (.n i) d e = some (e.set i (some d)) := id rfl
@[simp] theorem tgtE_t (is : List Nat) (ds : List D) : tgtE (.t is) (.tup ds) e = if ds.length = is.length then some (setAll is ds e) else none := id rfl
@[simp] theorem wipeE_nil : wipeE e [] = e := id rfl
@[simp] theorem wipeE_cons (v : Nat) (vs : List Nat) : wipeE e (v :: vs) = (wipeE e vs).set v none := id rfl
def finL (fin : List D → Mem → D × Mem) (o : Option (Out (List D))) : Option (Out D) := match o with
  | some (.ok ys m2) => some (.ok (fin ys m2).1 (fin ys m2).2)
  | _ => none
@[simp] theorem finL_F (ys : List D) : finL finF (some (.ok ys m)) = some (.ok (.lst ys) m) := id rfl
@[simp] theorem finL_M (ys : List D) : finL finM (some (.ok ys m)) = some (.ok (.loc m.length) (m ++ [.lst ys])) := id rfl
theorem pLcG_app (fin : List D → Mem → D × Mem) (vs : List Nat) (pi : PIF) (T : Tgt) : pLcG fin vs pi T t p e m = bnd (pi e m) fun ds m1 => if ds.length ≤ SL then finL fin (lcF T t p (wipeE e vs) ds m1) else none := rfl
@[simp] theorem iSeq_app : iSeq p e m = bnd (p e m) itemsOf := id rfl
@[simp] theorem itemsOf_tup (l : List D) : itemsOf (.tup l) m = some (.ok l m) := id rfl
@[simp] theorem itemsOf_lst (l : List D) : itemsOf (.lst l) m = some (.ok l m) := id rfl
@[simp] theorem itemsOf_ro (l : List D) : itemsOf (.ro l) m = some (.ok l m) := id rfl
def r1L (ds : List D) (m1 : Mem) : Option (Out (List D)) := match ds with
  | [.int j] => if in62 j then some (.ok (intR 0 1 j.toNat) m1) else none
  | _ => none
def r2L (ds : List D) (m1 : Mem) : Option (Out (List D)) := match ds with
  | [.int i, .int j] => if in62 i && in62 j then some (.ok (intR i 1 (j - i).toNat) m1) else none
  | _ => none
@[simp] theorem iR1_app : iR1 pa e m = bnd (pa e m) fun ds m1 => r1L ds m1 := id rfl
@[simp] theorem iR2_app : iR2 pa e m = bnd (pa e m) fun ds m1 => r2L ds m1 := id rfl
def r3L (ds : List D) (m1 : Mem) : Option (Out (List D)) := match ds with
  | [.int i, .int j, .int c] => if c = -1 then (if in62 i && in62 j then some (.ok (intR i (-1) (i - j).toNat) m1) else none)
    else if decide (c ≠ 0) && decide (c.natAbs < 1073741824) && Builtin.Range.small i j c && decide (0 ≤ Builtin.Range.rangeSize i j c) then some (.ok (intR i c (Builtin.Range.rangeSize i j c).toNat) m1) else none
  | _ => none
@[simp] theorem iR3_app : iR3 pa e m = bnd (pa e m) fun ds m1 => r3L ds m1 := id rfl
theorem in62_le {j : Int} (h0 : -1000000000 ≤ j) (h1 : j ≤ 1000000000) : in62 j = true := by
  simp only [in62, Bool.and_eq_true, decide_eq_true_eq]
  constructor <;> omega
@[simp] theorem r1L_int {j : Int} (h0 : -1000000000 ≤ j) (h1 : j ≤ 1000000000) : r1L [.int j] m = some (.ok (intR 0 1 j.toNat) m) := by
  have h := in62_le h0 h1
  show (if in62 j = true then _ else _) = _
  rw [if_pos h]
@[simp] theorem r2L_int {i j : Int} (h0 : -1000000000 ≤ j) (h1 : j ≤ 1000000000) (g0 : -1000000000 ≤ i) (g1 : i ≤ 1000000000) : r2L [.int i, .int j] m = some (.ok (intR i 1 (j - i).toNat) m) := by
  have h := in62_le h0 h1
  have g := in62_le g0 g1
  show (if (in62 i && in62 j) = true then _ else _) = _
  rw [h, g]; rfl
theorem r3L_down {i j : Int} (h0 : -1000000000 ≤ j) (h1 : j ≤ 1000000000) (g0 : -1000000000 ≤ i) (g1 : i ≤ 1000000000) : r3L [.int i, .int j, .int (-1)] m = some (.ok (intR i (-1) (i - j).toNat) m) := by
  have h := in62_le h0 h1
  have g := in62_le g0 g1
  unfold r3L
  simp only [if_true]
  rw [h, g]; rfl
@[simp] theorem frzD_int (i : Int) : frzD (.int i) m = .ok (.int i) m := id rfl
@[simp] theorem frzD_bl (i : Bool) : frzD (.bl i) m = .ok (.bl i) m := id rfl
@[simp] theorem frzD_tup (l : List D) : frzD (.tup l) m = .ok (.tup l) m := id rfl
@[simp] theorem frzD_lst (l : List D) : frzD (.lst l) m = .ok (.lst l) m := id rfl
@[simp] theorem frzD_ro (l : List D) : frzD (.ro l) m = .ok (.ro l) m := id rfl
@[simp] theorem frzD_str (l : Str) : frzD (.str l) m = .ok (.str l) m := id rfl
@[simp] theorem frzD_non : frzD .non m = .ok .non m := id rfl
/-! operators on known kinds -/
@[simp] theorem oAdd_int (i j : Int) : oAdd (.int i) (.int j) m = some (.int (i + j)) := id rfl
@[simp] theorem oAdd_tup (l r : List D) : oAdd (.tup l) (.tup r) m = if l.length + r.length ≤ SL then some (.tup (l ++ r)) else none := id rfl
@[simp] theorem oAdd_lst (l r : List D) : oAdd (.lst l) (.lst r) m = if l.length + r.length ≤ SL then some (.lst (l ++ r)) else none := id rfl
@[simp] theorem oAdd_str (l r : Str) : oAdd (.str l) (.str r) m = if l.length + r.length ≤ SL then some (.str (l ++ r)) else none := id rfl
@[simp] theorem oSub2_int (i j : Int) : oSub2 (.int i) (.int j) m = some (.int (i - j)) := id rfl
@[simp] theorem oSub2_bl (i j : Bool) : oSub2 (.bl i) (.bl j) m = some (.int (b2i i - b2i j)) := id rfl
@[simp] theorem oSub_int (i j : Int) : oSub (.int i) (.int j) m = some (.int (i - j)) := id rfl
@[simp] theorem oMul_int (i j : Int) : oMul (.int i) (.int j) m = if mulFits i j = true then some (.int (i * j)) else none := id rfl
@[simp] theorem oMul_tup (l : List D) (k : Int) : oMul (.tup l) (.int k) m = if -(2 ^ 63) ≤ k ∧ k ≤ 1000 ∧ l.length ≤ 1000 then some (.tup (List.replicate k.toNat l).flatten) else none := id rfl
@[simp] theorem oDiv_int (i j : Int) : oDiv (.int i) (.int j) m = if divFits j = true then some (.int (i.fdiv j)) else none := id rfl
@[simp] theorem oMod_int (i j : Int) : oMod (.int i) (.int j) m = if j ≠ 0 then some (.int (i.fmod j)) else none := id rfl
@[simp] theorem oIAdd_int (i j : Int) : oIAdd (.int i) (.int j) m = some (.int (i + j)) := id rfl
@[simp] theorem oIMul_int (i j : Int) : oIMul (.int i) (.int j) m = if mulFits i j = true then some (.int (i * j)) else none := id rfl
@[simp] theorem oNeg_int (i : Int) : oNeg (.int i) m = some (.int (-i)) := id rfl
@[simp] theorem oEq_int (i j : Int) : oEq (.int i) (.int j) m = some (.bl (decide (i = j))) := id rfl
@[simp] theorem oNe_int (i j : Int) : oNe (.int i) (.int j) m = some (.bl (!decide (i = j))) := id rfl
@[simp] theorem oLt_int (i j : Int) : oLt (.int i) (.int j) m = some (.bl (decide (i < j))) := id rfl
@[simp] theorem oLe_int (i j : Int) : oLe (.int i) (.int j) m = some (.bl (decide (i ≤ j))) := id rfl
@[simp] theorem oGt_int (i j : Int) : oGt (.int i) (.int j) m = some (.bl (decide (j < i))) := id rfl
@[simp] theorem oGe_int (i j : Int) : oGe (.int i) (.int j) m = some (.bl (decide (j ≤ i))) := id rfl
@[simp] theorem oLen_tup (l : List D) : oLen [.tup l] m = some (.int l.length) := id rfl
@[simp] theorem oLen_lst (l : List D) : oLen [.lst l] m = some (.int l.length) := id rfl
@[simp] theorem oLen_ro (l : List D) : oLen [.ro l] m = some (.int l.length) := id rfl
@[simp] theorem oAbs_int (i : Int) : oAbs [.int i] m = some (.int (if i < 0 then -i else i)) := id rfl
@[simp] theorem oMax2_int (i j : Int) : oMax2 [.int i, .int j] m = some (.int (if j > i then j else i)) := id rfl
@[simp] theorem oMin2_int (i j : Int) : oMin2 [.int i, .int j] m = some (.int (if j < i then j else i)) := id rfl
@[simp] theorem oInt_int (i : Int) : oInt [.int i] m = some (.int i) := id rfl
@[simp] theorem oIx_tup (l : List D) (i : Int) : oIx (.tup l) (.int i) m = atI l i := id rfl
@[simp] theorem oIx_lst (l : List D) (i : Int) : oIx (.lst l) (.int i) m = atI l i := id rfl
@[simp] theorem oIx_ro (l : List D) (i : Int) : oIx (.ro l) (.int i) m = atI l i := id rfl
theorem atI_of_nat {α : Type} (l : List α) (j : Nat) : atI l (j : Int) = l[j]? := by
  unfold atI ixN
  rw [if_pos (Int.natCast_nonneg j)]
  by_cases h : (j : Int) < l.length
  · rw [if_pos h]; rfl
  · rw [if_neg h, List.getElem?_eq_none (by omega)]; rfl
end
end Z

set_option maxRecDepth 100000
set_option maxHeartbeats 4000000
set_option autoImplicit false
namespace Z
open PySem PySem.Spec PyProof.Rows L2
/-! ### what a mirror ends with: a small reckoning of claims behind it -/
section
variable {α β : Type}
@[irreducible] def wpE (o : Option (Out α)) (Q : α → Mem → Prop) : Prop := match o with
  | some (.ok a m) => Q a m
  | _ => False
@[irreducible] def wpS (o : Option SOut) (N : Ev → Mem → Prop) (R : D → Mem → Prop) : Prop := match o with
  | some (.nx e m) => N e m
  | some (.rt d m) => R d m
  | _ => False
/-- for a body of a loop: bk ends, ct goes on -/
@[irreducible] def wpL (o : Option SOut) (N : Ev → Mem → Prop) (B : Ev → Mem → Prop) (R : D → Mem → Prop) : Prop := match o with
  | some (.nx e m) => N e m
  | some (.ct e m) => N e m
  | some (.bk e m) => B e m
  | some (.rt d m) => R d m
  | _ => False
variable {Q Q' : α → Mem → Prop} {N N' B B' : Ev → Mem → Prop} {R R' : D → Mem → Prop} {m : Mem} {e : Ev}
theorem wpE.out {o : Option (Out α)} (h : wpE o Q) : ∃ a m, o = some (.ok a m) ∧ Q a m := by
  unfold wpE at h
  split at h
  · exact ⟨_, _, rfl, h⟩
  · exact h.elim
theorem wpE.of {o : Option (Out α)} {a : α} {m : Mem} (h : o = some (.ok a m)) (q : Q a m) : wpE o Q := by subst h; unfold wpE; exact q
theorem wpE.mono {o : Option (Out α)} (h : wpE o Q) (q : ∀ a m, Q a m → Q' a m) : wpE o Q' := by
  obtain ⟨a, m, e, k⟩ := h.out
  exact .of e (q a m k)
theorem wpS.mono {o : Option SOut} (h : wpS o N R) (q : ∀ e m, N e m → N' e m) (r : ∀ d m, R d m → R' d m) : wpS o N' R' := by
  unfold wpS at h ⊢
  split at h
  · exact q _ _ h
  · exact r _ _ h
  · exact h.elim
theorem wpL.mono {o : Option SOut} (h : wpL o N B R) (q : ∀ e m, N e m → N' e m) (b : ∀ e m, B e m → B' e m) (r : ∀ d m, R d m → R' d m) : wpL o N' B' R' := by
  unfold wpL at h ⊢
  split at h
  · exact q _ _ h
  · exact q _ _ h
  · exact b _ _ h
  · exact r _ _ h
  · exact h.elim
theorem wpS.toL {o : Option SOut} (h : wpS o N R) : wpL o N B R := by
  unfold wpS at h; unfold wpL
  split at h
  · exact h
  · exact h
  · exact h.elim
@[simp] theorem wpE_ok (a : α) : wpE (some (.ok a m)) Q = Q a m := by unfold wpE; rfl
@[simp] theorem wpE_bnd (o : Option (Out β)) (k : β → Mem → Option (Out α)) : wpE (bnd o k) Q = wpE o fun a m => wpE (k a m) Q := by
  unfold wpE
  cases o with
  | none => rfl
  | some o => cases o <;> rfl
@[simp] theorem wpE_ite {P : Prop} [Decidable P] (a b : Option (Out α)) : wpE (if P then a else b) Q = if P then wpE a Q else wpE b Q := by split <;> rfl
@[simp] theorem wpS_nx : wpS (some (.nx e m)) N R = N e m := by unfold wpS; rfl
@[simp] theorem wpS_rt (d : D) : wpS (some (.rt d m)) N R = R d m := by unfold wpS; rfl
@[simp] theorem wpS_thenS (o : Option SOut) (k : Ev → Mem → Option SOut) : wpS (thenS o k) N R = wpS o (fun e m => wpS (k e m) N R) R := by
  unfold wpS
  cases o with
  | none => rfl
  | some o => cases o <;> rfl
@[simp] theorem wpS_bndS (o : Option (Out β)) (k : β → Mem → Option SOut) : wpS (bndS o e k) N R = wpE o fun a m => wpS (k a m) N R := by
  unfold wpE wpS
  cases o with
  | none => rfl
  | some o => cases o <;> rfl
@[simp] theorem wpS_ite {P : Prop} [Decidable P] (a b : Option SOut) : wpS (if P then a else b) N R = if P then wpS a N R else wpS b N R := by split <;> rfl
@[simp] theorem wpL_nx : wpL (some (.nx e m)) N B R = N e m := by unfold wpL; rfl
@[simp] theorem wpL_ct : wpL (some (.ct e m)) N B R = N e m := by unfold wpL; rfl
@[simp] theorem wpL_bk : wpL (some (.bk e m)) N B R = B e m := by unfold wpL; rfl
@[simp] theorem wpL_rt (d : D) : wpL (some (.rt d m)) N B R = R d m := by unfold wpL; rfl
@[simp] theorem wpL_bndS (o : Option (Out β)) (k : β → Mem → Option SOut) : wpL (bndS o e k) N B R = wpE o fun a m => wpL (k a m) N B R := by
  unfold wpE wpL
  cases o with
  | none => rfl
  | some o => cases o <;> rfl
@[simp] theorem wpL_ite {P : Prop} [Decidable P] (a b : Option SOut) : wpL (if P then a else b) N B R = if P then wpL a N B R else wpL b N B R := by split <;> rfl
/-- the first statement of a row: it goes on, leaves the row or the loop -/
@[irreducible] def wpT (o : Option SOut) (N : Ev → Mem → Prop) (C B : Ev → Mem → Prop) (R : D → Mem → Prop) : Prop := match o with
  | some (.nx e m) => N e m
  | some (.ct e m) => C e m
  | some (.bk e m) => B e m
  | some (.rt d m) => R d m
  | _ => False
variable {C : Ev → Mem → Prop}
theorem wpL_T (o : Option SOut) : wpL o N B R = wpT o N N B R := by unfold wpL wpT; rfl
@[simp] theorem wpT_nx : wpT (some (.nx e m)) N C B R = N e m := by unfold wpT; rfl
@[simp] theorem wpT_ct : wpT (some (.ct e m)) N C B R = C e m := by unfold wpT; rfl
@[simp] theorem wpT_bk : wpT (some (.bk e m)) N C B R = B e m := by unfold wpT; rfl
@[simp] theorem wpT_rt (d : D) : wpT (some (.rt d m)) N C B R = R d m := by unfold wpT; rfl
@[simp] theorem wpL_thenS (o : Option SOut) (k : Ev → Mem → Option SOut) : wpL (thenS o k) N B R = wpT o (fun e m => wpL (k e m) N B R) N B R := by
  unfold wpL wpT
  cases o with
  | none => rfl
  | some o => cases o <;> rfl
@[simp] theorem wpT_thenS (o : Option SOut) (k : Ev → Mem → Option SOut) : wpT (thenS o k) N C B R = wpT o (fun e m => wpT (k e m) N C B R) C B R := by
  unfold wpT
  cases o with
  | none => rfl
  | some o => cases o <;> rfl
@[simp] theorem wpT_bndS (o : Option (Out β)) (k : β → Mem → Option SOut) : wpT (bndS o e k) N C B R = wpE o fun a m => wpT (k a m) N C B R := by
  unfold wpE wpT
  cases o with
  | none => rfl
  | some o => cases o <;> rfl
@[simp] theorem wpT_ite {P : Prop} [Decidable P] (a b : Option SOut) : wpT (if P then a else b) N C B R = if P then wpT a N C B R else wpT b N C B R := by split <;> rfl
theorem wpS.toT {o : Option SOut} (h : wpS o N R) : wpT o N C B R := by
  unfold wpS at h; unfold wpT
  split at h
  · exact h
  · exact h
  · exact h.elim
/-- a def: its body's end -/
theorem wp_fn {n : Nat} {b : PSF} {ds : List D} {Q : D → Mem → Prop} (h : wpS (b (startE n ds) m) (fun _ m1 => Q .non m1) Q) : wpE (pFn n b ds m) Q := by
  unfold wpS at h
  unfold pFn wpE
  cases h1 : b (startE n ds) m with
  | none => rw [h1] at h; exact h.elim
  | some o =>
    rw [h1] at h
    cases o with
    | nx e m1 => exact h
    | rt d m1 => exact h
    | _ => exact h.elim
theorem wp_app {f : Fn} {ds : List D} {n : Nat} {Q : D → Mem → Prop} (h : ds.length = n) (q : wpE (f ds m) Q) : wpE (if ds.length = n then f ds m else none) Q := by
  rw [if_pos h]; exact q
/-- while -/
theorem wp_while {t : PTF} {s : PSF} {N : Ev → Mem → Prop} {R : D → Mem → Prop} (I : Nat → Ev → Mem → Prop)
    (st : ∀ k e m, I k e m → wpE (t e m) fun b m1 => if b = true then wpL (s e m1) (fun e2 m2 => ∃ k', k' < k ∧ I k' e2 m2) N R else N e m1) :
    ∀ (n k : Nat) (e : Ev) (m : Mem), I k e m → k < n → wpS (whileF t s n e m) N R
  | 0, _, _, _, _, hk => absurd hk (Nat.not_lt_zero _)
  | n + 1, k, e, m, i, hk => by
    rw [whileF_succ, wpS_bndS]
    refine (st k e m i).mono fun b m1 h => ?_
    by_cases hb : b = true
    · rw [if_pos hb] at h ⊢
      unfold wpL at h
      split at h
      · rename_i e2 m2 h1
        obtain ⟨k', h2, h3⟩ := h
        rw [h1, ctn_nx]
        exact wp_while I st n k' e2 m2 h3 (by omega)
      · rename_i e2 m2 h1
        obtain ⟨k', h2, h3⟩ := h
        rw [h1, ctn_ct]
        exact wp_while I st n k' e2 m2 h3 (by omega)
      · rename_i e2 m2 h1
        rw [h1, ctn_bk, wpS_nx]
        exact h
      · rename_i d m2 h1
        rw [h1, ctn_rt, wpS_rt]
        exact h
      · exact h.elim
    · rw [if_neg hb] at h ⊢
      rw [wpS_nx]
      exact h
/-- for -/
theorem wp_loop {g : PGF} {s : PSF} {N : Ev → Mem → Prop} {R : D → Mem → Prop} (I : List D → Ev → Mem → Prop)
    (st : ∀ d ds e m, I (d :: ds) e m → ∃ e1 m1, g d e m = some (.ok e1 m1) ∧ wpL (s e1 m1) (I ds) N R) (en : ∀ e m, I [] e m → N e m) :
    ∀ (ds : List D) (e : Ev) (m : Mem), I ds e m → wpS (loopF g s ds e m) N R
  | [], e, m, i => by rw [loopF_nil, wpS_nx]; exact en e m i
  | d :: ds, e, m, i => by
    obtain ⟨e1, m1, h1, h⟩ := st d ds e m i
    rw [loopF_cons, h1, inG_ok]
    unfold wpL at h
    split at h
    · rename_i e2 m2 h2
      rw [h2, ctn_nx]
      exact wp_loop I st en ds e2 m2 h
    · rename_i e2 m2 h2
      rw [h2, ctn_ct]
      exact wp_loop I st en ds e2 m2 h
    · rename_i e2 m2 h2
      rw [h2, ctn_bk, wpS_nx]
      exact h
    · rename_i d m2 h2
      rw [h2, ctn_rt, wpS_rt]
      exact h
    · exact h.elim
/-- a comprehension: what stays and what is made of it -/
theorem wp_lc {T : Tgt} {t : PTF} {p : PEF} {e : Ev} (J : Mem → Prop) (b : D → Bool) (f : D → D) :
    ∀ (ds : List D) (m : Mem), (∀ d ∈ ds, ∀ m, J m → ∃ e1, tgtE T d e = some e1 ∧ wpE (t e1 m) fun c m1 => c = b d ∧ J m1 ∧ (b d = true → wpE (p e1 m1) fun y m2 => y = f d ∧ J m2)) → J m → wpE (lcF T t p e ds m) fun ys m1 => ys = (ds.filter b).map f ∧ J m1
  | [], m, st, j => by rw [lcF_nil, wpE_ok]; exact ⟨rfl, j⟩
  | d :: ds, m, st, j => by
    obtain ⟨e1, h1, h2⟩ := st d (List.mem_cons_self ..) m j
    rw [lcF_cons, h1, okE_s]
    obtain ⟨c, m1, h3, rfl, j1, h4⟩ := h2.out
    rw [h3, okB_ok]
    by_cases hb : b d = true
    · rw [if_pos hb]
      obtain ⟨y, m2, h5, rfl, j2⟩ := (h4 hb).out
      rw [h5, okD_ok]
      obtain ⟨ys, m3, h6, rfl, j3⟩ := (wp_lc J b f ds m2 (fun d hd => st d (List.mem_cons_of_mem _ hd)) j2).out
      rw [h6, okL_ok, wpE_ok, List.filter_cons_of_pos hb]
      exact ⟨rfl, j3⟩
    · rw [if_neg hb]
      refine (wp_lc J b f ds m1 (fun d hd => st d (List.mem_cons_of_mem _ hd)) j1).mono fun ys m2 h => ?_
      rw [List.filter_cons_of_neg hb]
      exact h
@[simp] theorem wpE_finF {o : Option (Out (List D))} {Q : D → Mem → Prop} : wpE (finL finF o) Q = wpE o fun ys m => Q (.lst ys) m := by
  unfold wpE
  cases o with
  | none => rfl
  | some o => cases o <;> rfl
@[simp] theorem wpE_finM {o : Option (Out (List D))} {Q : D → Mem → Prop} : wpE (finL finM o) Q = wpE o fun ys m => Q (.loc m.length) (m ++ [.lst ys]) := by
  unfold wpE
  cases o with
  | none => rfl
  | some o => cases o <;> rfl
end
section
variable {α : Type} {Q : D → Mem → Prop} {m : Mem} {d : D} {P : Prop} [Decidable P]
@[simp] theorem wp_l1_if : wpE (lift1 (if P then some d else none) m) Q = (P ∧ Q d m) := by
  unfold wpE
  by_cases h : P <;> simp [h, lift1, wpE]
@[simp] theorem wp_l1_fi : wpE (lift1 (if P then none else some d) m) Q = (¬P ∧ Q d m) := by
  unfold wpE
  by_cases h : P <;> simp [h, lift1, wpE]
@[simp] theorem wp_if_no {Q : α → Mem → Prop} (o : Option (Out α)) : wpE (if P then o else none) Q = (P ∧ wpE o Q) := by
  unfold wpE
  by_cases h : P <;> simp [h, wpE]
@[simp] theorem wpS_if_no {N : Ev → Mem → Prop} {R : D → Mem → Prop} (o : Option SOut) : wpS (if P then o else none) N R = (P ∧ wpS o N R) := by
  unfold wpS
  by_cases h : P <;> simp [h, wpS]
@[simp] theorem wpL_if_no {N B : Ev → Mem → Prop} {R : D → Mem → Prop} (o : Option SOut) : wpL (if P then o else none) N B R = (P ∧ wpL o N B R) := by
  unfold wpL
  by_cases h : P <;> simp [h, wpL]
@[simp] theorem wpT_if_no {N C B : Ev → Mem → Prop} {R : D → Mem → Prop} (o : Option SOut) : wpT (if P then o else none) N C B R = (P ∧ wpT o N C B R) := by
  unfold wpT
  by_cases h : P <;> simp [h, wpT]
end
/-! numbers -/
theorem slLe {n : Nat} (h : n ≤ 10000000) : n ≤ SL := Nat.le_trans h (by decide)
theorem slLt {n : Nat} (h : n ≤ 10000000) : n < SL := Nat.lt_of_le_of_lt h (by decide)
@[simp] theorem sl1 : (1 : Nat) ≤ SL := slLe (by decide)
@[simp] theorem sl2 : (2 : Nat) ≤ SL := slLe (by decide)
@[simp] theorem sl3 : (3 : Nat) ≤ SL := slLe (by decide)
@[simp] theorem sl4 : (4 : Nat) ≤ SL := slLe (by decide)
@[simp] theorem sl5 : (5 : Nat) ≤ SL := slLe (by decide)
@[simp] theorem sl6 : (6 : Nat) ≤ SL := slLe (by decide)
@[simp] theorem sl7 : (7 : Nat) ≤ SL := slLe (by decide)
@[simp] theorem sl8 : (8 : Nat) ≤ SL := slLe (by decide)
@[simp] theorem sl9 : (9 : Nat) ≤ SL := slLe (by decide)
@[simp] theorem sl10 : (10 : Nat) ≤ SL := slLe (by decide)
@[simp] theorem sl11 : (11 : Nat) ≤ SL := slLe (by decide)
@[simp] theorem sl12 : (12 : Nat) ≤ SL := slLe (by decide)
theorem mulF_l {i j : Int} (h : i.natAbs < 18446744073709551616) : mulFits i j = true := by unfold mulFits; rw [decide_eq_true h]; rfl
theorem mulF_r {i j : Int} (h : j.natAbs < 18446744073709551616) : mulFits i j = true := by unfold mulFits; rw [decide_eq_true h, Bool.or_true]; rfl
theorem mulF_b {i j : Int} {n : Nat} (hn : n ≤ 400000) (h1 : i.natAbs < 2 ^ n) (h2 : j.natAbs < 2 ^ n) : mulFits i j = true := by
  unfold mulFits
  have f : ∀ x : Nat, x < 2 ^ n → x.log2 ≤ n := fun x hx => by
    by_cases h0 : x = 0
    · subst h0; exact Nat.zero_le _
    · exact Nat.le_of_lt ((Nat.log2_lt h0).2 hx)
  have a := f _ h1
  have b := f _ h2
  rw [decide_eq_true (p := i.natAbs.log2 + j.natAbs.log2 < 1000000) (by omega), Bool.or_true]
theorem divF {j : Int} {n : Nat} (hn : n ≤ 8000) (h0 : j ≠ 0) (h : j.natAbs < 2 ^ n) : divFits j = true := by
  unfold divFits
  have : j.natAbs.log2 < 9000 := by
    have := (Nat.log2_lt (n := j.natAbs) (k := n) (by omega)).2 h
    omega
  rw [decide_eq_true h0, decide_eq_true this]; rfl
/-- the numbers from lo on, so many -/
def rng (lo : Int) (n : Nat) : List Int := (List.range n).map fun (k : Nat) => lo + k
theorem intR_rng (lo : Int) (n : Nat) : intR lo 1 n = (rng lo n).map D.int := by
  unfold intR rng
  rw [List.map_map]
  refine List.map_congr_left fun k _ => ?_
  show D.int (lo + k * 1) = D.int (lo + k)
  rw [Int.mul_one]
theorem rng_len (lo : Int) (n : Nat) : (rng lo n).length = n := by simp [rng]
theorem mem_rng {lo x : Int} {n : Nat} : x ∈ rng lo n ↔ lo ≤ x ∧ x < lo + n := by
  unfold rng
  rw [List.mem_map]
  constructor
  · rintro ⟨k, hk, rfl⟩
    have := List.mem_range.1 hk
    omega
  · rintro ⟨h1, h2⟩
    exact ⟨(x - lo).toNat, List.mem_range.2 (by omega), by omega⟩
theorem rng_succ (lo : Int) (n : Nat) : rng lo (n + 1) = rng lo n ++ [lo + n] := by
  unfold rng
  rw [List.range_succ, List.map_append]; rfl
theorem rng_cons (lo : Int) (n : Nat) : rng lo (n + 1) = lo :: rng (lo + 1) n := by
  unfold rng
  rw [List.range_succ_eq_map, List.map_cons, List.map_map]
  refine congr (congrArg List.cons (by simp)) (List.map_congr_left fun k _ => ?_)
  show lo + ((k + 1 : Nat) : Int) = lo + 1 + k
  omega
theorem rng_app (lo : Int) (a b : Nat) : rng lo (a + b) = rng lo a ++ rng (lo + a) b := by
  induction b with
  | zero => simp [rng]
  | succ b ih => rw [← Nat.add_assoc, rng_succ, ih, rng_succ, List.append_assoc]; congr 3; omega
/-- a comprehension over numbers that leaves the memory -/
theorem wp_lcI {i : Nat} {t : PTF} {p : PEF} {e : Ev} {m : Mem} (b : Int → Bool) (f : Int → Int) (xs : List Int)
    (st : ∀ x ∈ xs, wpE (t (e.set i (some (.int x))) m) fun c m1 => c = b x ∧ m1 = m ∧ (b x = true → wpE (p (e.set i (some (.int x))) m) fun y m2 => y = .int (f x) ∧ m2 = m)) :
    wpE (lcF (.n i) t p e (xs.map D.int) m) fun ys m1 => ys = ((xs.filter b).map f).map D.int ∧ m1 = m := by
  have gi : ∀ d : D, D := fun d => d
  refine (wp_lc (T := .n i) (t := t) (p := p) (e := e) (fun m1 => m1 = m) (fun d => match d with | .int x => b x | _ => false) (fun d => match d with | .int x => .int (f x) | d => d) (xs.map D.int) m ?_ rfl).mono fun ys m1 h => ?_
  · intro d hd m1 hm
    subst hm
    obtain ⟨x, hx, rfl⟩ := List.mem_map.1 hd
    refine ⟨_, rfl, (st x hx).mono fun c m2 h => ?_⟩
    obtain ⟨h1, rfl, h2⟩ := h
    exact ⟨h1, rfl, fun hb => h2 hb⟩
  · obtain ⟨h1, h2⟩ := h
    refine ⟨h1.trans ?_, h2⟩
    clear h1 st
    induction xs with
    | nil => rfl
    | cons x xs ih =>
      rw [List.map_cons]
      by_cases hb : b x = true
      · rw [List.filter_cons_of_pos (a := D.int x) hb, List.filter_cons_of_pos hb, List.map_cons, List.map_cons, List.map_cons, ih]
      · rw [List.filter_cons_of_neg (a := D.int x) hb, List.filter_cons_of_neg hb, ih]
end Z

set_option maxRecDepth 100000
set_option maxHeartbeats 4000000
set_option autoImplicit false
namespace Z
open PySem PySem.Spec PyProof.Rows L2
theorem fmodLt {a b : Int} (hb : b ≠ 0) : (a.fmod b).natAbs < b.natAbs := by
  rcases Int.lt_or_lt_of_ne hb with h | h
  · have h1 : (-(-a)).fmod (-(-b)) = -((-a).fmod (-b)) := Int.neg_fmod_neg ..
    rw [Int.neg_neg, Int.neg_neg] at h1
    have := Int.fmod_nonneg_of_pos (-a) (b := -b) (by omega)
    have := Int.fmod_lt_of_pos (-a) (b := -b) (by omega)
    omega
  · have := Int.fmod_nonneg_of_pos a h
    have := Int.fmod_lt_of_pos a h
    omega
theorem fmodE (a b : Int) : a.fmod b = a - b * a.fdiv b := by
  have := Int.fmod_add_mul_fdiv a b
  omega
theorem gcd_sub_mul (a b q : Int) : Int.gcd b (a - b * q) = Int.gcd a b := by
  rw [Int.gcd_comm, Int.sub_eq_add_neg, ← Int.mul_neg, Int.gcd_add_mul_left_left]
theorem gcd_fmod (a b : Int) : Int.gcd b (a.fmod b) = Int.gcd a b := by rw [fmodE, gcd_sub_mul]
theorem absI (a : Int) : (if a < 0 then -a else a) = (a.natAbs : Int) := by split <;> omega
theorem oApp_at {m : Mem} {i : Nat} {l : List D} {b : D} (h : m[i]? = some (.lst l)) (hl : l.length < SL) : oApp i b m = some (.ok .non (m.set i (.lst (l ++ [b])))) := by
  unfold oApp; rw [h]; simp [hl]
theorem set_at {m : Mem} {i : Nat} {c c' : Cell} (h : m[i]? = some c) : (m.set i c')[i]? = some c' := by
  rw [List.getElem?_set_self (List.getElem?_eq_some_iff.1 h).1]
theorem oPow_int (i j : Int) (m : Mem) : oPow (.int i) (.int j) m = if 0 ≤ j ∧ j ≤ 1000000 ∧ i.natAbs < 2 ^ 64 then some (.int (i ^ j.toNat)) else none := rfl
theorem fmodN (a : Int) {b : Int} (h : 0 < b) : 0 ≤ a.fmod b ∧ a.fmod b < b := ⟨Int.fmod_nonneg_of_pos a h, Int.fmod_lt_of_pos a h⟩
theorem fdivN {a b : Int} (h : 0 < b) (ha : 0 ≤ a) : 0 ≤ a.fdiv b := Int.fdiv_nonneg ha (by omega)
def Sm (l : List Int) : Prop := ∀ r ∈ l, 0 ≤ r ∧ r < 4096
theorem mulF_m {a b q : Int} (h : 0 < q) (hq : q < 18446744073709551616) : mulFits (a.fmod q) b = true := mulF_l (by have := fmodN a h; omega)
/-- the pool of draws: k taken -/
def Pool (p : D) (k : Nat) (m : Mem) : Prop := ∃ (l : List Int) (i : Nat), p = .lst [.lst (l.map D.int), .loc i] ∧ m[i]? = some (.lst [.int k]) ∧ l ≠ [] ∧ l.length ≤ 80 ∧ Sm l
theorem atI_mem {l : List Int} {j : Int} (h0 : 0 ≤ j) (h : j < l.length) : ∃ x ∈ l, atI (l.map D.int) j = some (.int x) := by
  obtain ⟨k, rfl⟩ := Int.eq_ofNat_of_zero_le h0
  have hk : k < l.length := by omega
  refine ⟨l[k], List.getElem_mem _, ?_⟩
  rw [atI_of_nat, List.getElem?_map, List.getElem?_eq_getElem hk]; rfl
theorem atI_0 {α : Type} (x : α) (l : List α) : atI (x :: l) 0 = some x := atI_of_nat (x :: l) 0
theorem atI_1 {α : Type} (x y : α) (l : List α) : atI (x :: y :: l) 1 = some y := atI_of_nat (x :: y :: l) 1
theorem atI_2 {α : Type} (x y z : α) (l : List α) : atI (x :: y :: z :: l) 2 = some z := atI_of_nat (x :: y :: z :: l) 2
theorem ixN_0 (n : Nat) : ixN (n + 1) 0 = some 0 := by unfold ixN; simp
@[simp] theorem ik_NoneType_bool : isKind "NoneType" "bool" = false := by decide
@[simp] theorem ik_NoneType_int : isKind "NoneType" "int" = false := by decide
@[simp] theorem ik_NoneType_str : isKind "NoneType" "str" = false := by decide
@[simp] theorem ik_NoneType_tuple : isKind "NoneType" "tuple" = false := by decide
@[simp] theorem ik_NoneType_list : isKind "NoneType" "list" = false := by decide
@[simp] theorem ik_NoneType_dict : isKind "NoneType" "dict" = false := by decide
@[simp] theorem ik_bool_bool : isKind "bool" "bool" = true := by decide
@[simp] theorem ik_bool_int : isKind "bool" "int" = true := by decide
@[simp] theorem ik_bool_str : isKind "bool" "str" = false := by decide
@[simp] theorem ik_bool_tuple : isKind "bool" "tuple" = false := by decide
@[simp] theorem ik_bool_list : isKind "bool" "list" = false := by decide
@[simp] theorem ik_bool_dict : isKind "bool" "dict" = false := by decide
@[simp] theorem ik_int_bool : isKind "int" "bool" = false := by decide
@[simp] theorem ik_int_int : isKind "int" "int" = true := by decide
@[simp] theorem ik_int_str : isKind "int" "str" = false := by decide
@[simp] theorem ik_int_tuple : isKind "int" "tuple" = false := by decide
@[simp] theorem ik_int_list : isKind "int" "list" = false := by decide
@[simp] theorem ik_int_dict : isKind "int" "dict" = false := by decide
@[simp] theorem ik_str_bool : isKind "str" "bool" = false := by decide
@[simp] theorem ik_str_int : isKind "str" "int" = false := by decide
@[simp] theorem ik_str_str : isKind "str" "str" = true := by decide
@[simp] theorem ik_str_tuple : isKind "str" "tuple" = false := by decide
@[simp] theorem ik_str_list : isKind "str" "list" = false := by decide
@[simp] theorem ik_str_dict : isKind "str" "dict" = false := by decide
@[simp] theorem ik_tuple_bool : isKind "tuple" "bool" = false := by decide
@[simp] theorem ik_tuple_int : isKind "tuple" "int" = false := by decide
@[simp] theorem ik_tuple_str : isKind "tuple" "str" = false := by decide
@[simp] theorem ik_tuple_tuple : isKind "tuple" "tuple" = true := by decide
@[simp] theorem ik_tuple_list : isKind "tuple" "list" = false := by decide
@[simp] theorem ik_tuple_dict : isKind "tuple" "dict" = false := by decide
@[simp] theorem ik_list_bool : isKind "list" "bool" = false := by decide
@[simp] theorem ik_list_int : isKind "list" "int" = false := by decide
@[simp] theorem ik_list_str : isKind "list" "str" = false := by decide
@[simp] theorem ik_list_tuple : isKind "list" "tuple" = false := by decide
@[simp] theorem ik_list_list : isKind "list" "list" = true := by decide
@[simp] theorem ik_list_dict : isKind "list" "dict" = false := by decide
section
variable {m : Mem} {T : String} {l : List D}
@[simp] theorem oIsi_non : oIsi T .non m = some (.bl (isKind "NoneType" T)) := id rfl
@[simp] theorem oIsi_bl (b : Bool) : oIsi T (.bl b) m = some (.bl (isKind "bool" T)) := id rfl
@[simp] theorem oIsi_int (b : Int) : oIsi T (.int b) m = some (.bl (isKind "int" T)) := id rfl
@[simp] theorem oIsi_str (b : Str) : oIsi T (.str b) m = some (.bl (isKind "str" T)) := id rfl
@[simp] theorem oIsi_tup : oIsi T (.tup l) m = some (.bl (isKind "tuple" T)) := id rfl
@[simp] theorem oIsi_lst : oIsi T (.lst l) m = some (.bl (isKind "list" T)) := id rfl
@[simp] theorem oIsi_ro : oIsi T (.ro l) m = some (.bl (isKind "list" T)) := id rfl
@[simp] theorem oIsi_loc (i : Nat) : oIsi T (.loc i) m = some (.bl (isKind "list" T)) := id rfl
@[simp] theorem oIs_blbl (a b : Bool) : oIs (.bl a) (.bl b) m = some (.bl (decide (a = b))) := id rfl
@[simp] theorem oEq_bl (a b : Bool) : oEq (.bl a) (.bl b) m = some (.bl (decide (a = b))) := id rfl
@[simp] theorem oEq_str (a b : Str) : oEq (.str a) (.str b) m = some (.bl (decide (a = b))) := id rfl
@[simp] theorem oEq_non : oEq .non .non m = some (.bl true) := id rfl
end
def kindN : D → Int
  | .non => 0
  | .bl _ => 1
  | .int _ => 2
  | .str _ => 3
  | .tup _ => 4
  | _ => 5
/-- what a list-like or a tuple holds -/
def seqO (m : Mem) (d : D) : Option (List D) := match d with
  | .tup l => some l
  | d => asL m d
def scaD : D → Bool
  | .non => true
  | .bl _ => true
  | .int _ => true
  | .str _ => true
  | _ => false
/-- alike, as the law asks it -/
def Sim (m : Mem) : Nat → D → D → Prop
  | 0, _, _ => False
  | n + 1, x, y => (x = y ∧ scaD x = true) ∨ ∃ l r, seqO m x = some l ∧ seqO m y = some r ∧ kindN x = kindN y ∧ l.length = r.length ∧ l.length ≤ 1000000 ∧ ∀ (i : Nat) (a b : D), l[i]? = some a → r[i]? = some b → Sim m n a b
theorem seqO_len {m : Mem} {d : D} {l : List D} (h : seqO m d = some l) : oLen [d] m = some (.int l.length) := by
  cases d with
  | tup l' => cases h; rfl
  | lst l' => cases h; rfl
  | ro l' => cases h; rfl
  | loc i => simp only [seqO] at h; simp only [oLen, h]
  | _ => cases h
theorem seqO_ix {m : Mem} {d : D} {l : List D} (h : seqO m d = some l) (i : Int) : oIx d (.int i) m = atI l i := by
  cases d with
  | tup l' => cases h; rfl
  | lst l' => cases h; rfl
  | ro l' => cases h; rfl
  | loc j => simp only [seqO] at h; simp only [oIx, h]
  | _ => cases h
theorem seqO_k {m : Mem} {d : D} {l : List D} (h : seqO m d = some l) : kindN d = 4 ∨ kindN d = 5 := by
  cases d <;> first | exact .inl rfl | exact .inr rfl | cases h
theorem isi_tup (d : D) (m : Mem) : oIsi "tuple" d m = some (.bl (decide (kindN d = 4))) := by cases d <;> simp [kindN]
theorem isi_lst (d : D) (m : Mem) : oIsi "list" d m = some (.bl (decide (kindN d = 5))) := by cases d <;> simp [kindN]
theorem isi_dct (d : D) (m : Mem) : oIsi "dict" d m = some (.bl false) := by cases d <;> simp
theorem fdivAbs (a b : Int) (hb : b ≠ 0) : (a.fdiv b).natAbs ≤ a.natAbs + 1 := by
  have h1 := fmodLt (a := a) hb
  have h2 := Int.fmod_add_mul_fdiv a b
  have h3 : (b * a.fdiv b).natAbs = b.natAbs * (a.fdiv b).natAbs := Int.natAbs_mul ..
  have h4 : (b * a.fdiv b).natAbs < a.natAbs + b.natAbs := by omega
  rw [h3] at h4
  refine Nat.le_of_not_lt fun h => ?_
  have h5 : b.natAbs * (a.natAbs + 2) ≤ b.natAbs * (a.fdiv b).natAbs := Nat.mul_le_mul_left _ (by omega)
  have h6 : 1 * a.natAbs ≤ b.natAbs * a.natAbs := Nat.mul_le_mul_right _ (by omega)
  rw [Nat.mul_add] at h5
  omega
/-- no divisor between -/
def prB (n : Int) : Bool := decide (1 < n) && ((rng 2 (n - 2).toNat).filter fun d => decide (n.fmod d = 0)).isEmpty
theorem prB_iff (n : Int) : prB n = true ↔ 1 < n ∧ ∀ d, 2 ≤ d → d < n → n.fmod d ≠ 0 := by
  unfold prB
  rw [Bool.and_eq_true, decide_eq_true_eq, List.isEmpty_iff, List.filter_eq_nil_iff]
  constructor
  · rintro ⟨h1, h2⟩
    exact ⟨h1, fun d a b c => h2 d (mem_rng.2 ⟨a, by omega⟩) (by simpa using c)⟩
  · rintro ⟨h1, h2⟩
    refine ⟨h1, fun d hd c => ?_⟩
    have := mem_rng.1 hd
    exact h2 d this.1 (by omega) (by simpa using c)
theorem fmod_dvd {n d : Int} : n.fmod d = 0 ↔ d ∣ n := ⟨Int.dvd_of_fmod_eq_zero, Int.fmod_eq_zero_of_dvd⟩
/-- without divisors up to the root: none at all -/
theorem no_div {n k : Int} (hk : 2 ≤ k) (hn : n < k * k) (h : ∀ d, 2 ≤ d → d < k → ¬ d ∣ n) : ∀ d, 2 ≤ d → d < n → ¬ d ∣ n := by
  intro d h2 hd hdvd
  obtain ⟨q, e⟩ := hdvd
  have hq : 2 ≤ q := by
    refine Int.not_lt.1 fun hq => ?_
    rcases Int.lt_or_le q 1 with h1 | h1
    · have : d * q ≤ d * 0 := Int.mul_le_mul_of_nonneg_left (by omega) (by omega)
      omega
    · obtain rfl : q = 1 := by omega
      omega
  rcases Int.lt_or_le d k with h1 | h1
  · exact h d h2 h1 ⟨q, e⟩
  · rcases Int.lt_or_le q k with h3 | h3
    · exact h q hq h3 ⟨d, by rw [e, Int.mul_comm]⟩
    · have : k * k ≤ d * q := Int.mul_le_mul h1 h3 (by omega) (by omega)
      omega
def Keep (m m1 : Mem) : Prop := ∀ (a : Nat) (c : Cell), m[a]? = some c → m1[a]? = some c
theorem prB_dvd {q : Int} (h : prB q = true) {d : Int} (hd : d ∣ q) (h0 : 0 < d) : d = 1 ∨ d = q := by
  have h' := (prB_iff q).1 h
  rcases Int.lt_or_le d 2 with a | a
  · exact .inl (by omega)
  · rcases Int.lt_or_le d q with b | b
    · exact absurd (fmod_dvd.2 hd) (h'.2 d a b)
    · have := Int.le_of_dvd (by omega) hd
      exact .inr (by omega)
theorem prB_mul {q a b : Int} (h : prB q = true) (hd : q ∣ a * b) (hb : 0 < b) (hbq : b < q) : q ∣ a := by
  have hg : (Int.gcd q b : Int) ∣ q := Int.gcd_dvd_left ..
  have hg2 : (Int.gcd q b : Int) ∣ b := Int.gcd_dvd_right ..
  have hp : 0 < Int.gcd q b := Nat.pos_of_ne_zero fun h => by
    have := (Int.gcd_eq_zero_iff.1 h).2
    omega
  have hle := Int.le_of_dvd hb hg2
  rcases prB_dvd h hg (by omega) with h1 | h1
  · have hd' := Int.natAbs_dvd_natAbs.2 hd
    rw [Int.natAbs_mul] at hd'
    have hc : Nat.Coprime q.natAbs b.natAbs := by
      show Nat.gcd q.natAbs b.natAbs = 1
      exact_mod_cast h1
    exact Int.natAbs_dvd_natAbs.1 (hc.dvd_of_dvd_mul_right hd')
  · omega
theorem fdiv_dvd {n k : Int} (hk : 0 < k) (h : n.fmod k = 0) (hn : 0 < n) : n.fdiv k ∣ n ∧ 1 ≤ n.fdiv k ∧ n = n.fdiv k * k := by
  have e := Int.fmod_add_mul_fdiv n k
  rw [h, Int.zero_add] at e
  have e2 : n = n.fdiv k * k := by rw [Int.mul_comm]; omega
  refine ⟨⟨k, e2⟩, ?_, e2⟩
  rcases Int.lt_or_le 0 (n.fdiv k) with a | a
  · omega
  · have : k * n.fdiv k ≤ k * 0 := Int.mul_le_mul_of_nonneg_left a (by omega)
    omega
theorem filter_one {p : Int → Bool} {lo x : Int} {n : Nat} (h1 : lo ≤ x) (h2 : x < lo + n) (hp : p x = true) (ho : ∀ y, lo ≤ y → y < lo + n → p y = true → y = x) : (rng lo n).filter p = [x] := by
  have e : n = (x - lo).toNat + (1 + (lo + n - x - 1).toNat) := by omega
  rw [e, rng_app, List.filter_append, rng_app, List.filter_append]
  have a : (rng lo (x - lo).toNat).filter p = [] := List.filter_eq_nil_iff.2 fun y hy c => by
    have := mem_rng.1 hy
    have := ho y (by omega) (by omega) c
    omega
  have b : (rng (lo + ((x - lo).toNat : Int) + ((1 : Nat) : Int)) (lo + n - x - 1).toNat).filter p = [] := List.filter_eq_nil_iff.2 fun y hy c => by
    have := mem_rng.1 hy
    have := ho y (by omega) (by omega) c
    omega
  have c : rng (lo + ((x - lo).toNat : Int)) 1 = [x] := by
    rw [show lo + ((x - lo).toNat : Int) = x by omega]
    simp [rng]
  rw [a, b, c, List.filter_cons_of_pos hp]; rfl
theorem toPyL_ints (xs : List Int) : toPyL (xs.map D.int) = some (xs.map PyData.int) := by
  induction xs with
  | nil => rfl
  | cons x xs ih => simp only [List.map_cons, toPyL, ih, toPy]
theorem sh_ints (xs : List Int) : PyData.canLayAll0 (xs.map PyData.int) = true ∧ PyData.depthAll (xs.map PyData.int) = 0 := by
  induction xs with
  | nil => exact ⟨rfl, rfl⟩
  | cons x xs ih => simp [PyData.canLayAll0, PyData.depthAll, PyData.canLay0, PyData.depth, ih]
theorem eqv_ints (xs ys : List Int) : PyData.eqvAll (xs.map PyData.int) (ys.map PyData.int) = decide (xs = ys) := by
  induction xs generalizing ys with
  | nil => cases ys <;> rfl
  | cons x xs ih =>
    cases ys with
    | nil => rfl
    | cons y ys =>
      simp only [List.map_cons, PyData.eqvAll, PyData.eqv, ih]
      by_cases h : x = y <;> by_cases h2 : xs = ys <;> simp [h, h2]
theorem oEqB_lst (xs ys : List Int) (m : Mem) : oEqB (.lst (xs.map D.int)) (.lst (ys.map D.int)) m = some (decide (xs = ys)) := by
  simp [oEqB, oEqD, deref, toPy, toPyL_ints, SeqAt.shaped, PyData.canLay0, PyData.depth, sh_ints, PyData.eqv, eqv_ints]
theorem oEqB_tup (xs ys : List Int) (m : Mem) : oEqB (.tup (xs.map D.int)) (.tup (ys.map D.int)) m = some (decide (xs = ys)) := by
  simp [oEqB, oEqD, deref, toPy, toPyL_ints, SeqAt.shaped, PyData.canLay0, PyData.depth, sh_ints, PyData.eqv, eqv_ints]
theorem oEq_lst (xs ys : List Int) (m : Mem) : oEq (.lst (xs.map D.int)) (.lst (ys.map D.int)) m = some (.bl (decide (xs = ys))) := by
  unfold oEq; rw [oEqB_lst]; rfl
theorem oNe_lst (xs ys : List Int) (m : Mem) : oNe (.lst (xs.map D.int)) (.lst (ys.map D.int)) m = some (.bl (!decide (xs = ys))) := by
  unfold oNe; rw [oEqB_lst]; rfl
theorem sim_ints {m : Mem} {x y : D} {xs : List Int} {n : Nat} (hx : seqO m x = some (xs.map D.int)) (hy : seqO m y = some (xs.map D.int)) (hk : kindN x = kindN y) (hl : xs.length ≤ 1000000) : Sim m (n + 2) x y := by
  refine .inr ⟨_, _, hx, hy, hk, rfl, by simpa using hl, fun i a b ha hb => ?_⟩
  rw [ha] at hb
  cases hb
  rw [List.getElem?_map] at ha
  cases h : xs[i]? with
  | none => rw [h] at ha; cases ha
  | some z => rw [h] at ha; cases ha; exact .inl ⟨rfl, rfl⟩
theorem gcd_of_inv {a x p : Int} (hp : 2 ≤ p) (h : (a * x).fmod p = 1) : Int.gcd a p = 1 := by
  have e := Int.fmod_add_mul_fdiv (a * x) p
  rw [h] at e
  have h1 : (Int.gcd a p : Int) ∣ a * x := Int.dvd_trans (Int.gcd_dvd_left ..) ⟨x, rfl⟩
  have h2 : (Int.gcd a p : Int) ∣ p * (a * x).fdiv p := Int.dvd_trans (Int.gcd_dvd_right ..) ⟨_, rfl⟩
  have h3 : (Int.gcd a p : Int) ∣ 1 := by
    have := Int.dvd_sub h1 h2
    rw [show a * x - p * (a * x).fdiv p = 1 by omega] at this
    exact this
  have := Int.le_of_dvd (by decide) h3
  have h0 : Int.gcd a p ≠ 0 := fun h => by
    have := (Int.gcd_eq_zero_iff.1 h).2
    omega
  omega
theorem inv_unique {a x y p : Int} (hp : 2 ≤ p) (hx : 0 ≤ x ∧ x < p) (hy : 0 ≤ y ∧ y < p) (h1 : (a * x).fmod p = 1) (h2 : (a * y).fmod p = 1) : x = y := by
  have e1 := Int.fmod_add_mul_fdiv (a * x) p
  have e2 := Int.fmod_add_mul_fdiv (a * y) p
  rw [h1] at e1
  rw [h2] at e2
  have hd : p ∣ x - y := by
    refine ⟨x * (a * y).fdiv p * -1 + y * (a * x).fdiv p, ?_⟩
    grind
  obtain ⟨k, hk⟩ := hd
  have : k = 0 := by
    rcases Int.lt_or_le k 0 with h | h
    · have : p * k ≤ p * (-1) := Int.mul_le_mul_of_nonneg_left (by omega) (by omega)
      omega
    · rcases Int.lt_or_le 0 k with h' | h'
      · have : p * 1 ≤ p * k := Int.mul_le_mul_of_nonneg_left (by omega) (by omega)
        omega
      · omega
  subst this
  omega
theorem oEq_l1 (x : Int) (m : Mem) : oEq (.lst [.int x]) (.lst []) m = some (.bl false) := oEq_lst [x] [] m
theorem oNe_l1 (x : Int) (m : Mem) : oNe (.lst [.int x]) (.lst []) m = some (.bl true) := oNe_lst [x] [] m
theorem oEq_l0 (m : Mem) : oEq (.lst []) (.lst []) m = some (.bl true) := oEq_lst [] [] m
theorem oNe_l0 (m : Mem) : oNe (.lst []) (.lst []) m = some (.bl false) := oNe_lst [] [] m
@[simp] theorem pSl_app {e : Ev} {m : Mem} (p : PEF) (pl ph : POF) : pSl p pl ph e m = bnd (p e m) fun d m1 => bnd (pl e m1) fun lo m2 => bnd (ph e m2) fun hi m3 => lift1 (oSl d lo hi m3) m3 := id rfl
@[simp] theorem pNoPart_app {e : Ev} {m : Mem} : pNoPart e m = some (.ok none m) := id rfl
def iPart (d : D) (m : Mem) : Option (Out (Option Int)) := match d with
  | .int i => some (.ok (some i) m)
  | _ => none
@[simp] theorem iPart_int (i : Int) (m : Mem) : iPart (.int i) m = some (.ok (some i) m) := id rfl
@[simp] theorem pPart_app {e : Ev} {m : Mem} (p : PEF) : pPart p e m = bnd (p e m) fun d m1 => iPart d m1 := id rfl
@[simp] theorem oSl_lst (l : List D) (lo hi : Option Int) (m : Mem) : oSl (.lst l) lo hi m = some (.lst (cutD l lo hi)) := id rfl
theorem cutD_take (l : List D) (v : Nat) : cutD l none (some (v : Int)) = l.take v := by
  unfold cutD HT.sIx
  simp only [List.drop_zero, Nat.sub_zero]
  rw [if_neg (by omega)]
  rcases Nat.le_total v l.length with h | h
  · rw [Int.toNat_natCast, Nat.min_eq_left h]
  · rw [Int.toNat_natCast, Nat.min_eq_right h, List.take_of_length_le (Nat.le_refl _), List.take_of_length_le h]
theorem Pool.keep {p : D} {k : Nat} {m m1 : Mem} (h : Pool p k m) (q : Keep m m1) : Pool p k m1 := by
  obtain ⟨l, i, h1, h2, h3⟩ := h
  exact ⟨l, i, h1, q _ _ h2, h3⟩
end Z

set_option maxRecDepth 100000
set_option maxHeartbeats 4000000
set_option autoImplicit false
namespace Z
open PySem PySem.Spec PyProof.Rows L2
/-! ### rows of numbers as polynomials -/
def co (l : List Int) (k : Nat) : Int := l.getD k 0
def trim (l : List Int) : List Int := (l.reverse.dropWhile fun x => x == 0).reverse
theorem trim_nil : trim [] = [] := rfl
theorem trim_snoc0 (l : List Int) : trim (l ++ [0]) = trim l := by
  unfold trim; rw [List.reverse_append]; rfl
theorem trim_snoc (l : List Int) {x : Int} (h : x ≠ 0) : trim (l ++ [x]) = l ++ [x] := by
  unfold trim
  rw [List.reverse_append, List.reverse_singleton, List.singleton_append, List.dropWhile_cons_of_neg (by simpa using h)]
  simp
theorem co_nil (k : Nat) : co [] k = 0 := rfl
theorem co_lt {l : List Int} {k : Nat} (h : k < l.length) : co l k = l[k] := by unfold co; rw [List.getD_eq_getElem?_getD, List.getElem?_eq_getElem h]; rfl
theorem co_ge {l : List Int} {k : Nat} (h : l.length ≤ k) : co l k = 0 := by unfold co; rw [List.getD_eq_getElem?_getD, List.getElem?_eq_none h]; rfl
theorem co_app_l {l r : List Int} {k : Nat} (h : k < l.length) : co (l ++ r) k = co l k := by
  unfold co; rw [List.getD_eq_getElem?_getD, List.getElem?_append_left h, List.getD_eq_getElem?_getD]
theorem co_app_r {l r : List Int} {k : Nat} (h : l.length ≤ k) : co (l ++ r) k = co r (k - l.length) := by
  unfold co; rw [List.getD_eq_getElem?_getD, List.getElem?_append_right h, List.getD_eq_getElem?_getD]
theorem co_snoc0 (l : List Int) (k : Nat) : co (l ++ [0]) k = co l k := by
  by_cases h : k < l.length
  · exact co_app_l h
  · rw [co_app_r (by omega), co_ge (l := l) (by omega)]
    cases k - l.length <;> rfl
theorem co_trim (l : List Int) (k : Nat) : co (trim l) k = co l k := by
  rcases List.eq_nil_or_concat l with rfl | ⟨l', x, rfl⟩
  · rfl
  · by_cases hx : x = 0
    · subst hx
      rw [List.concat_eq_append, trim_snoc0, co_snoc0]
      exact co_trim l' k
    · rw [List.concat_eq_append, trim_snoc _ hx]
termination_by l.length
decreasing_by simp_all
theorem trim_trim (l : List Int) : trim (trim l) = trim l := by
  rcases List.eq_nil_or_concat l with rfl | ⟨l', x, rfl⟩
  · rfl
  · by_cases hx : x = 0
    · subst hx
      rw [List.concat_eq_append, trim_snoc0]
      exact trim_trim l'
    · rw [List.concat_eq_append, trim_snoc _ hx, trim_snoc _ hx]
termination_by l.length
decreasing_by simp_all
theorem trim_len (l : List Int) : (trim l).length ≤ l.length := by
  unfold trim
  rw [List.length_reverse]
  exact Nat.le_trans (List.dropWhile_sublist _).length_le (by simp)
/-- a trimmed one's end -/
theorem trim_last {l : List Int} (h : trim l = l) (hn : l ≠ []) : co l (l.length - 1) ≠ 0 := by
  rcases List.eq_nil_or_concat l with rfl | ⟨l', x, rfl⟩
  · exact absurd rfl hn
  · rw [List.concat_eq_append] at h ⊢
    intro hx
    rw [List.length_append, List.length_singleton, Nat.add_sub_cancel, co_app_r (Nat.le_refl _), Nat.sub_self] at hx
    have hx : x = 0 := hx
    subst hx
    rw [trim_snoc0] at h
    have := congrArg List.length h
    have := trim_len l'
    rw [List.length_append, List.length_singleton] at *
    omega
theorem trim_of_last {l : List Int} (h : l ≠ [] → co l (l.length - 1) ≠ 0) : trim l = l := by
  rcases List.eq_nil_or_concat l with rfl | ⟨l', x, rfl⟩
  · rfl
  · rw [List.concat_eq_append] at h ⊢
    refine trim_snoc _ fun hx => h (by simp) ?_
    rw [List.length_append, List.length_singleton, Nat.add_sub_cancel, co_app_r (Nat.le_refl _), Nat.sub_self]
    exact hx
theorem co_ext {l r : List Int} (hl : trim l = l) (hr : trim r = r) (h : ∀ k, co l k = co r k) : l = r := by
  have le : ∀ {l r : List Int}, trim r = r → (∀ k, co l k = co r k) → r.length ≤ l.length := by
    intro l r hr h
    refine Nat.le_of_not_lt fun c => ?_
    have hn : r ≠ [] := fun e => by rw [e] at c; simp at c
    refine trim_last hr hn ?_
    rw [← h, co_ge (by omega)]
  have e := Nat.le_antisymm (le (l := r) (r := l) hl fun k => (h k).symm) (le hr h)
  refine List.ext_getElem e fun i h1 h2 => ?_
  have := h i
  rwa [co_lt h1, co_lt h2] at this
theorem trim_ext {l r : List Int} (h : ∀ k, co l k = co r k) : trim l = trim r :=
  co_ext (trim_trim l) (trim_trim r) fun k => by rw [co_trim, co_trim, h]
theorem co_map_range (n : Nat) (f : Nat → Int) (k : Nat) : co ((List.range n).map f) k = if k < n then f k else 0 := by
  by_cases h : k < n
  · rw [if_pos h, co_lt (by simpa using h)]; simp
  · rw [if_neg h, co_ge (by simp; omega)]
/-! sum, product by a number, product -/
def padd (f g : List Int) : List Int := trim ((List.range (max f.length g.length)).map fun k => co f k + co g k)
def psc (x : Int) (f : List Int) : List Int := trim (f.map fun y => x * y)
theorem co_padd (f g : List Int) (k : Nat) : co (padd f g) k = co f k + co g k := by
  unfold padd
  rw [co_trim, co_map_range]
  split
  · rfl
  · rw [co_ge (l := f) (by omega), co_ge (l := g) (by omega)]; rfl
theorem co_map (f : List Int) (h : Int → Int) (h0 : h 0 = 0) (k : Nat) : co (f.map h) k = h (co f k) := by
  unfold co
  rw [List.getD_eq_getElem?_getD, List.getD_eq_getElem?_getD, List.getElem?_map]
  cases f[k]? <;> simp [h0]
theorem co_psc (x : Int) (f : List Int) (k : Nat) : co (psc x f) k = x * co f k := by
  unfold psc
  rw [co_trim, co_map f _ (Int.mul_zero x)]
def sm (n : Nat) (f : Nat → Int) : Int := ((List.range n).map f).sum
theorem sm_succ (n : Nat) (f : Nat → Int) : sm (n + 1) f = sm n f + f n := by
  unfold sm
  rw [List.range_succ, List.map_append, List.sum_append]
  simp
theorem sm_zero (f : Nat → Int) : sm 0 f = 0 := rfl
theorem sm_congr {n : Nat} {f g : Nat → Int} (h : ∀ k, k < n → f k = g k) : sm n f = sm n g := by
  induction n with
  | zero => rfl
  | succ n ih => rw [sm_succ, sm_succ, ih fun k hk => h k (by omega), h n (by omega)]
theorem sm_eq0 {n : Nat} {f : Nat → Int} (h : ∀ k, k < n → f k = 0) : sm n f = 0 := by
  induction n with
  | zero => rfl
  | succ n ih => rw [sm_succ, ih fun k hk => h k (by omega), h n (by omega)]; rfl
theorem sm_add (n : Nat) (f g : Nat → Int) : sm n (fun k => f k + g k) = sm n f + sm n g := by
  induction n with
  | zero => rfl
  | succ n ih => rw [sm_succ, sm_succ, sm_succ, ih]; omega
theorem sm_mul (n : Nat) (c : Int) (f : Nat → Int) : sm n (fun k => c * f k) = c * sm n f := by
  induction n with
  | zero => simp [sm_zero]
  | succ n ih => rw [sm_succ, sm_succ, ih, Int.mul_add]
theorem sm_more {n m : Nat} {f : Nat → Int} (h : n ≤ m) (h0 : ∀ k, n ≤ k → k < m → f k = 0) : sm m f = sm n f := by
  induction m with
  | zero => obtain rfl : n = 0 := by omega
            rfl
  | succ m ih =>
    rcases Nat.lt_or_ge m n with a | a
    · obtain rfl : n = m + 1 := by omega
      rfl
    · rw [sm_succ, ih a fun k a b => h0 k a (by omega), h0 m a (by omega)]; omega
/-- the t-th number of a product -/
def cv (f g : List Int) (t : Nat) : Int := sm f.length fun j => if j ≤ t then co f j * co g (t - j) else 0
theorem cv_big {f g : List Int} {t : Nat} (h : f.length + g.length ≤ t + 1) : cv f g t = 0 := by
  refine sm_eq0 fun j hj => ?_
  split
  · rw [co_ge (l := g) (by omega), Int.mul_zero]
  · rfl
def pmul (f g : List Int) : List Int := trim ((List.range (f.length + g.length)).map (cv f g))
theorem co_pmul (f g : List Int) (t : Nat) : co (pmul f g) t = cv f g t := by
  unfold pmul
  rw [co_trim, co_map_range]
  split
  · rfl
  · rw [cv_big (by omega)]
theorem pmul_trim (f g : List Int) : trim (pmul f g) = pmul f g := trim_trim _
theorem padd_trim (f g : List Int) : trim (padd f g) = padd f g := trim_trim _
theorem psc_trim (x : Int) (g : List Int) : trim (psc x g) = psc x g := trim_trim _
/-! the loops' own product -/
def addAt (l : List Int) (n : Nat) (x : Int) : List Int := l.set n (co l n + x)
theorem co_addAt (l : List Int) (n t : Nat) (x : Int) (h : n < l.length) : co (addAt l n x) t = co l t + if t = n then x else 0 := by
  unfold addAt
  by_cases e : t = n
  · subst e
    rw [co_lt (by simpa using h), List.getElem_set_self, if_pos rfl]
  · rw [if_neg e, Int.add_zero]
    unfold co
    simp only [List.getD_eq_getElem?_getD, List.getElem?_set_ne (Ne.symm e)]
theorem addAt_len (l : List Int) (n : Nat) (x : Int) : (addAt l n x).length = l.length := by unfold addAt; simp
def rowsK (f g : List Int) (j : Nat) : Nat → List Int → List Int
  | 0, acc => acc
  | k + 1, acc => addAt (rowsK f g j k acc) (j + k) (co f j * co g k)
def rowsJ (f g : List Int) (acc : List Int) : Nat → List Int
  | 0 => acc
  | j + 1 => rowsK f g j g.length (rowsJ f g acc j)
theorem rowsK_len (f g : List Int) (j : Nat) (n : Nat) (acc : List Int) : (rowsK f g j n acc).length = acc.length := by
  induction n with
  | zero => rfl
  | succ n ih => rw [rowsK, addAt_len, ih]
theorem rowsJ_len (f g : List Int) (acc : List Int) (n : Nat) : (rowsJ f g acc n).length = acc.length := by
  induction n with
  | zero => rfl
  | succ n ih => rw [rowsJ, rowsK_len, ih]
theorem co_rowsK (f g : List Int) (j : Nat) (acc : List Int) (t : Nat) : ∀ n, j + n ≤ acc.length → co (rowsK f g j n acc) t = co acc t + if j ≤ t ∧ t - j < n then co f j * co g (t - j) else 0
  | 0, _ => by rw [rowsK, if_neg (by omega), Int.add_zero]
  | n + 1, h => by
    rw [rowsK, co_addAt _ _ _ _ (by rw [rowsK_len]; omega), co_rowsK f g j acc t n (by omega)]
    by_cases e : t = j + n
    · subst e
      rw [if_pos rfl, if_neg (by omega), if_pos (by omega), Nat.add_sub_cancel_left]; omega
    · rw [if_neg e]
      by_cases c : j ≤ t ∧ t - j < n
      · rw [if_pos c, if_pos (by omega)]; omega
      · rw [if_neg c, if_neg (by omega)]; omega
theorem co_rowsJ (f g : List Int) (acc : List Int) (t : Nat) : ∀ n, n + g.length ≤ acc.length + 1 → co (rowsJ f g acc n) t = co acc t + sm n fun j => if j ≤ t then co f j * co g (t - j) else 0
  | 0, _ => by rw [rowsJ, sm_zero, Int.add_zero]
  | n + 1, h => by
    rw [rowsJ, co_rowsK _ _ _ _ _ _ (by rw [rowsJ_len]; omega), co_rowsJ f g acc t n (by omega), sm_succ, Int.add_assoc]
    congr 2
    by_cases c : n ≤ t
    · rw [if_pos c]
      by_cases d : t - n < g.length
      · rw [if_pos ⟨c, d⟩]
      · rw [if_neg (by omega), co_ge (l := g) (by omega), Int.mul_zero]
    · rw [if_neg c, if_neg (by omega)]
theorem co_rep0 (n t : Nat) : co (List.replicate n (0 : Int)) t = 0 := by
  by_cases h : t < n
  · rw [co_lt (by simpa using h)]; simp
  · rw [co_ge (by simp; omega)]
theorem rows_pmul (f g : List Int) (n : Nat) (h : f.length + g.length ≤ n + 1) : trim (rowsJ f g (List.replicate n 0) f.length) = pmul f g := by
  rw [← pmul_trim]
  refine trim_ext fun t => ?_
  rw [co_rowsJ _ _ _ _ _ (by simpa using h), co_rep0, Int.zero_add, co_pmul]; rfl
/-! sizes -/
def Bd (n : Nat) (f : List Int) : Prop := ∀ k, (co f k).natAbs < 2 ^ n
theorem Bd.up {n m : Nat} {f : List Int} (h : Bd n f) (hm : n ≤ m) : Bd m f := fun k => Nat.lt_of_lt_of_le (h k) (Nat.pow_le_pow_right (by decide) hm)
theorem Bd.trim {n : Nat} {f : List Int} (h : Bd n f) : Bd n (trim f) := fun k => by rw [co_trim]; exact h k
theorem Bd.mem {n : Nat} {f : List Int} (h : Bd n f) {x : Int} (hx : x ∈ f) : x.natAbs < 2 ^ n := by
  obtain ⟨i, hi, rfl⟩ := List.mem_iff_getElem.1 hx
  have := h i
  rwa [co_lt hi] at this
theorem Bd.of {n : Nat} {f : List Int} (h : ∀ x ∈ f, x.natAbs < 2 ^ n) : Bd n f := fun k => by
  by_cases hk : k < f.length
  · rw [co_lt hk]; exact h _ (List.getElem_mem _)
  · rw [co_ge (by omega)]; exact Nat.two_pow_pos n
theorem Bd.fits {a b : Nat} {f g : List Int} (hf : Bd a f) (hg : Bd b g) (ha : a ≤ 200000) (hb : b ≤ 200000) (i j : Nat) : mulFits (co f i) (co g j) = true :=
  mulF_b (n := max a b) (by omega) (hf.up (Nat.le_max_left ..) i) (hg.up (Nat.le_max_right ..) j)
theorem Bd.add {a b : Nat} {f g : List Int} (hf : Bd a f) (hg : Bd b g) : Bd (max a b + 1) (padd f g) := fun k => by
  rw [co_padd]
  have h1 := hf.up (Nat.le_max_left a b) k
  have h2 := hg.up (Nat.le_max_right a b) k
  rw [Nat.pow_succ]
  omega
theorem mul_bits {x y : Int} {a b : Nat} (hx : x.natAbs < 2 ^ a) (hy : y.natAbs < 2 ^ b) : (x * y).natAbs < 2 ^ (a + b) := by
  rw [Int.natAbs_mul, Nat.pow_add]
  exact Nat.mul_lt_mul'' hx hy
theorem sm_bits {n c B : Nat} {f : Nat → Int} (h : ∀ k, k < n → (f k).natAbs ≤ B) : (sm n f).natAbs ≤ n * B := by
  induction n with
  | zero => simp [sm_zero]
  | succ n ih =>
    rw [sm_succ, Nat.succ_mul]
    have := ih fun k hk => h k (by omega)
    have := h n (by omega)
    omega
theorem Bd.mul {a b c : Nat} {f g : List Int} (hf : Bd a f) (hg : Bd b g) (hl : f.length ≤ 2 ^ c) : Bd (a + b + c) (pmul f g) := fun t => by
  rw [co_pmul]
  unfold cv
  by_cases h0 : f.length = 0
  · rw [h0, sm_zero]; exact Nat.two_pow_pos _
  · have hb : ∀ k, k < f.length → (if k ≤ t then co f k * co g (t - k) else 0 : Int).natAbs ≤ 2 ^ (a + b) - 1 := fun k _ => by
      split
      · have := mul_bits (hf k) (hg (t - k)); omega
      · simp
    have h1 := sm_bits (c := 0) hb
    have h2 : f.length * (2 ^ (a + b) - 1) < 2 ^ c * 2 ^ (a + b) := by
      have hp := Nat.two_pow_pos (a + b)
      calc f.length * (2 ^ (a + b) - 1) < f.length * 2 ^ (a + b) := Nat.mul_lt_mul_of_pos_left (by omega) (by omega)
        _ ≤ 2 ^ c * 2 ^ (a + b) := Nat.mul_le_mul_right _ hl
    rw [Nat.add_comm (a + b) c, Nat.pow_add]
    omega
theorem Bd.sc {a b : Nat} {x : Int} {f : List Int} (hx : x.natAbs < 2 ^ a) (hf : Bd b f) : Bd (a + b) (psc x f) := fun k => by
  rw [co_psc]; exact mul_bits hx (hf k)
theorem padd_len (f g : List Int) : (padd f g).length ≤ max f.length g.length := Nat.le_trans (trim_len _) (by simp)
theorem psc_len (x : Int) (f : List Int) : (psc x f).length ≤ f.length := Nat.le_trans (trim_len _) (by simp)
theorem pmul_len (f g : List Int) : (pmul f g).length ≤ f.length + g.length := Nat.le_trans (trim_len _) (by simp)
/-! loops over a count -/
theorem wp_rng {s : PSF} {N : Ev → Mem → Prop} {R : D → Mem → Prop} {v : Nat} (I : Nat → Ev → Mem → Prop) (n : Nat)
    (st : ∀ k, k < n → ∀ e m, I k e m → wpL (s (e.set v (some (.int (k : Int)))) m) (I (k + 1)) N R) (en : ∀ e m, I n e m → N e m) (e : Ev) (m : Mem) (i : I 0 e m) : wpS (loopF (gN v) s (intR 0 1 n) e m) N R := by
  refine wp_loop (fun ds e m => ∃ k, k + ds.length = n ∧ ds = (rng k (n - k)).map D.int ∧ I k e m) ?_ ?_ _ _ _ ⟨0, by simp [intR_rng, rng_len], by simp [intR_rng], i⟩
  · rintro d ds e m ⟨k, h1, h2, h3⟩
    rw [List.length_cons] at h1
    rw [show n - k = ds.length + 1 by omega, rng_cons, List.map_cons] at h2
    injection h2 with h4 h5
    subst h4
    refine ⟨_, _, rfl, (st k (by omega) e m h3).mono (fun e2 m2 h => ⟨k + 1, by omega, ?_, h⟩) (fun _ _ h => h) (fun _ _ h => h)⟩
    rw [h5, show n - (k + 1) = ds.length by omega]; rfl
  · rintro e m ⟨k, h1, h2, h3⟩
    rw [List.length_nil] at h1
    obtain rfl : k = n := by omega
    exact en e m h3
theorem Keep.refl (m : Mem) : Keep m m := fun _ _ h => h
theorem Keep.trans {m m1 m2 : Mem} (h : Keep m m1) (h2 : Keep m1 m2) : Keep m m2 := fun a c h0 => h2 a c (h a c h0)
theorem Keep.push (m : Mem) (c : Cell) : Keep m (m ++ [c]) := fun a c h => by rw [List.getElem?_append_left (List.getElem?_eq_some_iff.1 h).1]; exact h
theorem Keep.set {m m1 : Mem} {i : Nat} (h : Keep m m1) (hi : m.length ≤ i) (c : Cell) : Keep m (m1.set i c) := fun a c' ha => by
  have := (List.getElem?_eq_some_iff.1 ha).1
  rw [List.getElem?_set_ne (by omega)]
  exact h a c' ha
theorem seqO_listL {m : Mem} {d : D} {l : List D} (h : seqO m d = some l) : oListL [d] m = some l := by
  cases d with
  | tup l' => cases h; rfl
  | _ => exact h
theorem atI_last {α : Type} (l : List α) (x : α) : atI (l ++ [x]) (-1) = some x := by
  unfold atI ixN
  rw [if_neg (by decide), if_pos (by simp; omega)]
  show (l ++ [x])[(-1 + ((l ++ [x]).length : Nat) : Int).toNat]? = some x
  rw [show (-1 + ((l ++ [x]).length : Nat) : Int).toNat = l.length by simp; omega, List.getElem?_concat_length]
theorem oPop_at {m : Mem} {i : Nat} {l : List D} {x : D} (h : m[i]? = some (.lst (l ++ [x]))) : oPop i m = some (.ok x (m.set i (.lst l))) := by
  unfold oPop
  simp [h]
theorem rep_flat1 {α : Type} (n : Nat) (x : α) : (List.replicate n [x]).flatten = List.replicate n x := by
  induction n with
  | zero => rfl
  | succ n ih => rw [List.replicate_succ, List.flatten_cons, ih]; rfl
theorem ixN_nat {n k : Nat} (h : k < n) : ixN n (k : Int) = some k := by
  unfold ixN
  simp; omega
end Z

set_option maxRecDepth 100000
set_option maxHeartbeats 4000000
set_option autoImplicit false
namespace Z
open PySem PySem.Spec PyProof.Rows L2
/-! ### the common divisor of a row, Gauss's lemma -/
def cont (f : List Int) : Int := f.foldl (fun a b => (Int.gcd a b : Int)) 0
theorem foldl_gcd_dvd (f : List Int) : ∀ a : Int, (f.foldl (fun a b => (Int.gcd a b : Int)) a ∣ a) ∧ ∀ x ∈ f, f.foldl (fun a b => (Int.gcd a b : Int)) a ∣ x := by
  induction f with
  | nil => intro a; exact ⟨Int.dvd_refl a, fun x h => by simp at h⟩
  | cons y f ih =>
    intro a
    rw [List.foldl_cons]
    have h := ih (Int.gcd a y : Int)
    refine ⟨Int.dvd_trans h.1 (Int.gcd_dvd_left ..), fun x hx => ?_⟩
    rcases List.mem_cons.1 hx with rfl | hx
    · exact Int.dvd_trans h.1 (Int.gcd_dvd_right ..)
    · exact h.2 x hx
theorem dvd_foldl_gcd (d : Int) (f : List Int) : ∀ a : Int, d ∣ a → (∀ x ∈ f, d ∣ x) → d ∣ f.foldl (fun a b => (Int.gcd a b : Int)) a := by
  induction f with
  | nil => intro a h _; exact h
  | cons y f ih =>
    intro a h hx
    rw [List.foldl_cons]
    exact ih _ (Int.dvd_coe_gcd h (hx y (by simp))) fun x h => hx x (by simp [h])
theorem cont_dvd (f : List Int) (k : Nat) : cont f ∣ co f k := by
  by_cases h : k < f.length
  · rw [co_lt h]; exact (foldl_gcd_dvd f 0).2 _ (List.getElem_mem _)
  · rw [co_ge (by omega)]; exact Int.dvd_zero _
theorem dvd_cont {d : Int} {f : List Int} (h : ∀ k, d ∣ co f k) : d ∣ cont f := by
  refine dvd_foldl_gcd d f 0 (Int.dvd_zero _) fun x hx => ?_
  obtain ⟨i, hi, rfl⟩ := List.mem_iff_getElem.1 hx
  have := h i
  rwa [co_lt hi] at this
theorem cont_nn (f : List Int) : 0 ≤ cont f := by
  unfold cont
  rcases List.eq_nil_or_concat f with rfl | ⟨l, x, rfl⟩
  · simp
  · rw [List.concat_eq_append, List.foldl_append]; simp
theorem cont_eq {f : List Int} {c : Int} (h0 : 0 ≤ c) (h1 : ∀ k, c ∣ co f k) (h2 : ∀ d, (∀ k, d ∣ co f k) → d ∣ c) : cont f = c :=
  Int.dvd_antisymm (cont_nn f) h0 (h2 _ (cont_dvd f)) (dvd_cont h1)
theorem cont_pos {f : List Int} {k : Nat} (h : co f k ≠ 0) : 0 < cont f := by
  have h1 := cont_nn f
  have h2 := cont_dvd f k
  rcases Int.lt_or_le 0 (cont f) with a | a
  · exact a
  · have : cont f = 0 := by omega
    rw [this] at h2
    exact absurd (Int.zero_dvd.1 h2) h
theorem ex_prime : ∀ n : Int, 1 < n → ∃ p, prB p = true ∧ p ∣ n := by
  have key : ∀ (k : Nat) (n : Int), n.toNat = k → 1 < n → ∃ p, prB p = true ∧ p ∣ n := by
    intro k
    induction k using Nat.strongRecOn with
    | ind k ih =>
      intro n hk hn
      by_cases h : prB n = true
      · exact ⟨n, h, Int.dvd_refl n⟩
      · have h' : ¬ (1 < n ∧ ∀ d, 2 ≤ d → d < n → n.fmod d ≠ 0) := fun c => h ((prB_iff n).2 c)
        have h2 : ∃ d, 2 ≤ d ∧ d < n ∧ n.fmod d = 0 := by
          refine Classical.byContradiction fun c => h' ⟨hn, fun d a b e => c ⟨d, a, b, e⟩⟩
        obtain ⟨d, a, b, e⟩ := h2
        obtain ⟨p, hp, hd⟩ := ih d.toNat (by omega) d rfl (by omega)
        exact ⟨p, hp, Int.dvd_trans hd (fmod_dvd.1 e)⟩
  exact fun n => key n.toNat n rfl
theorem prime_mul {p a b : Int} (hp : prB p = true) (h : p ∣ a * b) : p ∣ a ∨ p ∣ b := by
  have h1 := (prB_iff p).1 hp
  have hg : (Int.gcd p b : Int) ∣ p := Int.gcd_dvd_left ..
  have h0 : 0 < Int.gcd p b := Nat.pos_of_ne_zero fun h => by
    have := (Int.gcd_eq_zero_iff.1 h).1
    omega
  rcases prB_dvd hp hg (by omega) with c | c
  · refine .inl ?_
    have hd' := Int.natAbs_dvd_natAbs.2 h
    rw [Int.natAbs_mul] at hd'
    have hc : Nat.Coprime p.natAbs b.natAbs := by
      show Nat.gcd p.natAbs b.natAbs = 1
      exact_mod_cast c
    exact Int.natAbs_dvd_natAbs.1 (hc.dvd_of_dvd_mul_right hd')
  · refine .inr ?_
    have := Int.gcd_dvd_right (a := p) (b := b)
    rwa [c] at this
theorem least_index {P : Nat → Prop} (h : ∃ n, P n) : ∃ n, P n ∧ ∀ k, k < n → ¬ P k := by
  obtain ⟨n, hn⟩ := h
  induction n using Nat.strongRecOn with
  | ind n ih =>
    by_cases c : ∃ k, k < n ∧ P k
    · obtain ⟨k, hk, h⟩ := c
      exact ih k hk h
    · exact ⟨n, hn, fun k hk h => c ⟨k, hk, h⟩⟩
theorem sm_dvd {n : Nat} {f : Nat → Int} {d : Int} (h : ∀ k, k < n → d ∣ f k) : d ∣ sm n f := by
  induction n with
  | zero => exact Int.dvd_zero _
  | succ n ih => rw [sm_succ]; exact Int.dvd_add (ih fun k hk => h k (by omega)) (h n (by omega))
theorem sm_one {n i : Nat} {f : Nat → Int} {d : Int} (hi : i < n) (h : ∀ k, k < n → k ≠ i → d ∣ f k) : d ∣ sm n f - f i := by
  induction n with
  | zero => omega
  | succ n ih =>
    rw [sm_succ]
    by_cases e : i = n
    · subst e
      rw [Int.add_sub_cancel]
      exact sm_dvd fun k hk => h k (by omega) (by omega)
    · have h1 := ih (by omega) fun k hk hn => h k (by omega) hn
      have h2 := h n (by omega) (Ne.symm e)
      rw [show sm n f + f n - f i = (sm n f - f i) + f n by omega]
      exact Int.dvd_add h1 h2
theorem gauss {f g : List Int} (hf : cont f = 1) (hg : cont g = 1) : cont (pmul f g) = 1 := by
  have ne : ∀ {f : List Int} {p : Int}, prB p = true → cont f = 1 → ∃ i, ¬ p ∣ co f i := by
    intro f p hp hf
    refine Classical.byContradiction fun c => ?_
    have : p ∣ cont f := dvd_cont fun k => Classical.byContradiction fun d => c ⟨k, d⟩
    rw [hf] at this
    have := Int.le_of_dvd (by decide) this
    have := (prB_iff p).1 hp
    omega
  have h0 := cont_nn (pmul f g)
  refine Classical.byContradiction fun hne => ?_
  have hp : ∃ p, prB p = true ∧ p ∣ cont (pmul f g) := by
    rcases Int.lt_or_le 1 (cont (pmul f g)) with a | a
    · exact ex_prime _ a
    · exact ⟨2, by decide, by rw [show cont (pmul f g) = 0 by omega]; exact Int.dvd_zero _⟩
  obtain ⟨p, hp, hd⟩ := hp
  obtain ⟨i, hi, hi2⟩ := least_index (ne hp hf)
  obtain ⟨j, hj, hj2⟩ := least_index (ne hp hg)
  have hif : i < f.length := Nat.lt_of_not_le fun c => hi (by rw [co_ge c]; exact Int.dvd_zero _)
  have h1 : p ∣ co (pmul f g) (i + j) := Int.dvd_trans hd (cont_dvd _ _)
  rw [co_pmul] at h1
  have h2 := sm_one (d := p) (n := f.length) (i := i) (f := fun k => if k ≤ i + j then co f k * co g (i + j - k) else 0) hif fun k hk hki => by
    split
    · rcases Nat.lt_or_ge k i with a | a
      · exact Int.dvd_trans (Classical.byContradiction fun c => hi2 k a c) ⟨_, rfl⟩
      · have h3 : p ∣ co g (i + j - k) := Classical.byContradiction fun c => hj2 (i + j - k) (by omega) c
        exact Int.dvd_trans h3 ⟨co f k, Int.mul_comm ..⟩
    · exact Int.dvd_zero _
  have h3 := Int.dvd_sub h1 h2
  have h4 : cv f g (i + j) - (sm f.length (fun k => if k ≤ i + j then co f k * co g (i + j - k) else 0) - (if i ≤ i + j then co f i * co g (i + j - i) else 0)) = co f i * co g j := by
    show sm _ _ - _ = _
    rw [if_pos (Nat.le_add_right ..), Nat.add_sub_cancel_left]; omega
  rw [h4] at h3
  rcases prime_mul hp h3 with c | c
  · exact hi c
  · exact hj c
/-- scaling both -/
theorem cv_scale {f g f' g' : List Int} {a b : Int} (hf : ∀ k, co f k = a * co f' k) (hg : ∀ k, co g k = b * co g' k) (hl : f.length = f'.length) (t : Nat) : cv f g t = a * b * cv f' g' t := by
  unfold cv
  rw [← sm_mul, hl]
  refine sm_congr fun k _ => ?_
  split
  · rw [hf, hg]; grind
  · rw [Int.mul_zero]
theorem cv_lead {f g : List Int} (hf : f ≠ []) (hg : g ≠ []) : cv f g (f.length - 1 + (g.length - 1)) = co f (f.length - 1) * co g (g.length - 1) := by
  have h1 := List.length_pos_iff.2 hf
  have h2 := List.length_pos_iff.2 hg
  unfold cv
  rw [show f.length = f.length - 1 + 1 by omega, sm_succ, sm_eq0, Int.zero_add, if_pos (by omega)]
  · congr 2; omega
  · intro k hk
    split
    · rw [co_ge (l := g) (by omega), Int.mul_zero]
    · rfl
theorem pmul_length {f g : List Int} (hf : f ≠ []) (hg : g ≠ []) (tf : trim f = f) (tg : trim g = g) : (pmul f g).length = f.length + g.length - 1 := by
  have h1 := List.length_pos_iff.2 hf
  have h2 := List.length_pos_iff.2 hg
  have hne : cv f g (f.length - 1 + (g.length - 1)) ≠ 0 := by
    rw [cv_lead hf hg]
    exact Int.mul_ne_zero (trim_last tf hf) (trim_last tg hg)
  refine Nat.le_antisymm ?_ ?_
  · refine Nat.le_of_not_lt fun c => ?_
    have hn : pmul f g ≠ [] := fun e => by rw [e] at c; simp at c
    refine trim_last (pmul_trim f g) hn ?_
    rw [co_pmul]
    exact cv_big (by omega)
  · refine Nat.le_of_not_lt fun c => hne ?_
    rw [← co_pmul, co_ge (by omega)]
/-- made plain: the number in front and the rest -/
def mpS (f : List Int) : Int := if 0 < co f (f.length - 1) then cont f else -cont f
def mpR (f : List Int) : List Int := f.map fun x => x.fdiv (mpS f)
def lead (f : List Int) : Int := co f (f.length - 1)
theorem fdiv_exact {x s : Int} (hs : s ≠ 0) (h : s ∣ x) : x = s * x.fdiv s := by
  have := Int.fmod_add_mul_fdiv x s
  rw [Int.fmod_eq_zero_of_dvd h] at this
  omega
theorem mpS_ne {f : List Int} (tf : trim f = f) (hf : f ≠ []) : mpS f ≠ 0 := by
  have := cont_pos (trim_last tf hf)
  unfold mpS
  split <;> omega
theorem mpS_dvd (f : List Int) (k : Nat) : mpS f ∣ co f k := by
  unfold mpS
  split
  · exact cont_dvd f k
  · exact Int.neg_dvd.2 (cont_dvd f k)
theorem co_mpR {f : List Int} (tf : trim f = f) (hf : f ≠ []) (k : Nat) : co f k = mpS f * co (mpR f) k := by
  unfold mpR
  rw [co_map _ (fun x => x.fdiv (mpS f)) (Int.zero_fdiv _)]
  exact fdiv_exact (mpS_ne tf hf) (mpS_dvd f k)
theorem mpR_len (f : List Int) : (mpR f).length = f.length := by unfold mpR; simp
theorem mpR_lead {f : List Int} (tf : trim f = f) (hf : f ≠ []) : 0 < co (mpR f) (f.length - 1) := by
  have h1 := co_mpR tf hf (f.length - 1)
  have h2 := trim_last tf hf
  have h3 := cont_pos h2
  by_cases c : 0 < co f (f.length - 1)
  · have hs : mpS f = cont f := if_pos c
    rw [hs] at h1
    refine Int.not_le.1 fun d => ?_
    have : cont f * co (mpR f) (f.length - 1) ≤ cont f * 0 := Int.mul_le_mul_of_nonneg_left d (by omega)
    omega
  · have hs : mpS f = -cont f := if_neg c
    rw [hs, Int.neg_mul] at h1
    refine Int.not_le.1 fun d => ?_
    have : cont f * co (mpR f) (f.length - 1) ≤ cont f * 0 := Int.mul_le_mul_of_nonneg_left d (by omega)
    omega
theorem mpR_trim {f : List Int} (tf : trim f = f) (hf : f ≠ []) : trim (mpR f) = mpR f :=
  trim_of_last fun _ => by rw [mpR_len]; have := mpR_lead tf hf; omega
theorem cont_scale {f g : List Int} {s : Int} (h : ∀ k, co f k = s * co g k) : cont f = s.natAbs * cont g := by
  refine cont_eq (Int.mul_nonneg (by omega) (cont_nn g)) (fun k => ?_) fun d hd => ?_
  · rw [h]
    obtain ⟨c, hc⟩ := cont_dvd g k
    rw [hc]
    rcases Int.natAbs_eq s with e | e
    · exact ⟨c, by rw [← e]; grind⟩
    · exact ⟨-c, by rw [show s = -(s.natAbs : Int) from e] ; simp; grind⟩
  · by_cases hs : s = 0
    · subst hs; simp
    · have hgd : ∀ k, d ∣ s * co g k := fun k => by rw [← h]; exact hd k
      have key : ∀ (l : List Int) (a : Int), d ∣ s * a → (∀ x ∈ l, d ∣ s * x) → d ∣ s * l.foldl (fun a b => (Int.gcd a b : Int)) a := by
        intro l
        induction l with
        | nil => intro a h _; exact h
        | cons y l ih =>
          intro a ha hl
          rw [List.foldl_cons]
          refine ih _ ?_ fun x hx => hl x (by simp [hx])
          have h1 := Int.dvd_coe_gcd ha (hl y (by simp))
          rw [Int.gcd_mul_left] at h1
          rcases Int.natAbs_eq s with e | e
          · rw [e]; simpa using h1
          · rw [e, Int.neg_mul]; exact Int.dvd_neg.2 (by simpa using h1)
      have h2 : d ∣ s * cont g := key g 0 (by simp) fun x hx => by
        obtain ⟨i, hi, rfl⟩ := List.mem_iff_getElem.1 hx
        have := hgd i
        rwa [co_lt hi] at this
      rcases Int.natAbs_eq s with e | e
      · rw [← e]; exact h2
      · rw [e, Int.neg_mul] at h2; exact Int.dvd_neg.1 h2
theorem cont_mpR {f : List Int} (tf : trim f = f) (hf : f ≠ []) : cont (mpR f) = 1 := by
  have h1 := cont_scale (co_mpR tf hf)
  have h3 := cont_pos (trim_last tf hf)
  have h2 : ((mpS f).natAbs : Int) = cont f := by unfold mpS; split <;> omega
  rw [h2] at h1
  have h4 : cont f * (cont (mpR f) - 1) = 0 := by rw [Int.mul_sub]; omega
  rcases Int.mul_eq_zero.1 h4 with a | a <;> omega
theorem mp_mul {f g : List Int} (tf : trim f = f) (tg : trim g = g) (hf : f ≠ []) (hg : g ≠ []) : mpS (pmul f g) = mpS f * mpS g ∧ mpR (pmul f g) = pmul (mpR f) (mpR g) := by
  have hl := pmul_length hf hg tf tg
  have h1 := List.length_pos_iff.2 hf
  have h2 := List.length_pos_iff.2 hg
  have hc : ∀ t, co (pmul f g) t = mpS f * mpS g * co (pmul (mpR f) (mpR g)) t := fun t => by
    rw [co_pmul, co_pmul]
    exact cv_scale (co_mpR tf hf) (co_mpR tg hg) (mpR_len f).symm t
  have hg1 := gauss (cont_mpR tf hf) (cont_mpR tg hg)
  have hcont := cont_scale hc
  rw [hg1, Int.mul_one] at hcont
  have rf : mpR f ≠ [] := fun e => hf (List.length_eq_zero_iff.1 (by rw [← mpR_len, e]; rfl))
  have rg : mpR g ≠ [] := fun e => hg (List.length_eq_zero_iff.1 (by rw [← mpR_len, e]; rfl))
  have hlead : co (pmul (mpR f) (mpR g)) (f.length + g.length - 1 - 1) = co (mpR f) (f.length - 1) * co (mpR g) (g.length - 1) := by
    rw [co_pmul]
    have := cv_lead rf rg
    rw [mpR_len, mpR_len] at this
    rw [show f.length + g.length - 1 - 1 = f.length - 1 + (g.length - 1) by omega, this]
  have hpos : 0 < co (pmul (mpR f) (mpR g)) (f.length + g.length - 1 - 1) := by
    rw [hlead]; exact Int.mul_pos (mpR_lead tf hf) (mpR_lead tg hg)
  have hs0 : mpS f * mpS g ≠ 0 := Int.mul_ne_zero (mpS_ne tf hf) (mpS_ne tg hg)
  have hS : mpS (pmul f g) = mpS f * mpS g := by
    unfold mpS
    rw [hl, hc, hcont]
    rcases Int.lt_or_le 0 (mpS f * mpS g) with a | a
    · rw [if_pos (Int.mul_pos a hpos)]; show ((mpS f * mpS g).natAbs : Int) = mpS f * mpS g; omega
    · rw [if_neg (Int.not_lt.2 (Int.mul_nonpos_of_nonpos_of_nonneg a (by omega)))]; show -((mpS f * mpS g).natAbs : Int) = mpS f * mpS g; omega
  refine ⟨hS, ?_⟩
  have hn : pmul f g ≠ [] := fun e => by rw [e] at hl; simp at hl; omega
  refine co_ext (mpR_trim (pmul_trim f g) hn) (pmul_trim _ _) fun k => ?_
  have e1 := co_mpR (pmul_trim f g) hn k
  rw [hc, hS] at e1
  exact (Int.mul_eq_mul_left_iff hs0).1 e1.symm
end Z
namespace Z
open PySem PySem.Spec PyProof.Rows L2
theorem oEqB_loc0 {m : Mem} {i : Nat} {ys : List Int} (h : m[i]? = some (.lst (ys.map D.int))) : oEqB (.loc i) (.lst []) m = some (decide (ys = [])) := by
  have e : oEqB (.loc i) (.lst []) m = oEqD m (.loc i) (.lst []) := rfl
  rw [e]
  have := oEqB_lst ys [] m
  have e2 : oEqB (.lst (ys.map D.int)) (.lst ([].map D.int)) m = oEqD m (.lst (ys.map D.int)) (.lst []) := rfl
  rw [e2] at this
  unfold oEqD at this ⊢
  simp only [deref, h] at this ⊢
  exact this
theorem oNe_loc0 {m : Mem} {i : Nat} {ys : List Int} (h : m[i]? = some (.lst (ys.map D.int))) : oNe (.loc i) (.lst []) m = some (.bl (!decide (ys = []))) := by
  unfold oNe; rw [oEqB_loc0 h]; rfl
end Z
namespace Z
open PySem PySem.Spec PyProof.Rows L2
def tupI (f : List Int) : D := .tup (f.map D.int)
theorem itemsOf_seq {m : Mem} {d : D} {l : List D} (h : seqO m d = some l) (hn : ∀ i, d ≠ .loc i) : itemsOf d m = some (.ok l m) := by
  cases d with
  | tup l' => cases h; rfl
  | lst l' => cases h; rfl
  | ro l' => cases h; rfl
  | loc i => exact absurd rfl (hn i)
  | _ => cases h
/-- how big products of rows grow -/
theorem prod_bd {a c : Nat} (fs : List (List Int)) (h : ∀ f ∈ fs, Bd a f ∧ f.length ≤ 2 ^ c) : ∀ (acc : List Int) (b k : Nat), Bd b acc → acc.length ≤ (k + 1) * 2 ^ c → k + fs.length ≤ 30 → Bd (b + fs.length * (a + c + 5)) (fs.foldl pmul acc) ∧ (fs.foldl pmul acc).length ≤ (k + fs.length + 1) * 2 ^ c := by
  induction fs with
  | nil => intro acc b k h1 h2 _; exact ⟨by simpa using h1, h2⟩
  | cons f fs ih =>
    intro acc b k h1 h2 h3
    rw [List.length_cons] at h3
    have hf := h f (by simp)
    have hl : acc.length ≤ 2 ^ (c + 5) := by
      have : (k + 1) * 2 ^ c ≤ 32 * 2 ^ c := Nat.mul_le_mul_right _ (by omega)
      rw [Nat.pow_add]; omega
    have h4 := Bd.mul h1 hf.1 hl
    have h5 := pmul_len acc f
    have h6 := ih (fun g hg => h g (by simp [hg])) (pmul acc f) (b + a + (c + 5)) (k + 1) h4 (by
      have : (k + 1 + 1) * 2 ^ c = (k + 1) * 2 ^ c + 2 ^ c := by rw [Nat.succ_mul]
      omega) (by omega)
    refine ⟨?_, ?_⟩
    · have := h6.1
      rw [show b + a + (c + 5) + fs.length * (a + c + 5) = b + (fs.length + 1) * (a + c + 5) by rw [Nat.succ_mul]; omega] at this
      exact this
    · have := h6.2
      rw [List.length_cons, List.foldl_cons]
      rw [show k + 1 + fs.length + 1 = k + (fs.length + 1) + 1 by omega] at this
      exact this
def pslope (f : List Int) : List Int := trim ((rng 1 (f.length - 1)).map fun k => k * co f k.toNat)
def isIntD : D → Bool
  | .int _ => true
  | _ => false
def lastNz (l : List D) : Bool := match l.getLast? with
  | some (.int x) => x != 0
  | _ => true
def isPolyD : D → Bool
  | .tup l => l.all isIntD && lastNz l
  | _ => false
theorem all_int {l : List D} (h : l.all isIntD = true) : ∃ xs : List Int, l = xs.map D.int := by
  induction l with
  | nil => exact ⟨[], rfl⟩
  | cons d l ih =>
    rw [List.all_cons, Bool.and_eq_true] at h
    obtain ⟨xs, rfl⟩ := ih h.2
    cases d with
    | int x => exact ⟨x :: xs, rfl⟩
    | _ => simp [isIntD] at h
theorem lastNz_ints (xs : List Int) (x : Int) : lastNz ((xs ++ [x]).map D.int) = (x != 0) := by
  unfold lastNz
  rw [List.map_append, List.map_singleton, List.getLast?_append]; rfl
theorem blsOf_map {α : Type} (f : α → Bool) (l : List α) : blsOf (l.map fun d => D.bl (f d)) = some (l.map f) := by
  induction l with
  | nil => rfl
  | cons a l ih => simp only [List.map_cons, blsOf, ih]
theorem lead_eq {f : List Int} {x : Int} {l : List Int} (h : f = l ++ [x]) : co f (f.length - 1) = x := by
  subst h
  rw [List.length_append, List.length_singleton, Nat.add_sub_cancel, co_app_r (Nat.le_refl _), Nat.sub_self]; rfl
theorem atI_lead {f : List Int} (hf : f ≠ []) : atI (f.map D.int) (-1) = some (.int (co f (f.length - 1))) := by
  rcases List.eq_nil_or_concat f with rfl | ⟨l, x, e⟩
  · exact absurd rfl hf
  · rw [List.concat_eq_append] at e
    rw [lead_eq e, e, List.map_append]
    exact atI_last _ _
/-- any value of plain data is equal to itself -/
theorem eqv_refl_of : ∀ (p : PyData), p.canLay0 = true → PyData.eqv p p = true
  | .none, _ => by simp [PyData.eqv]
  | .bool _, _ => by simp [PyData.eqv]
  | .int _, _ => by simp [PyData.eqv]
  | .str _, _ => by simp [PyData.eqv]
  | .list xs, h => by simp only [PyData.eqv]; rw [PyData.canLay0] at h; exact eqvAll_refl_of xs h
  | .tuple xs, h => by simp only [PyData.eqv]; rw [PyData.canLay0] at h; exact eqvAll_refl_of xs h
  | .dict _, h => by simp [PyData.canLay0] at h
where
  eqvAll_refl_of : ∀ (l : List PyData), PyData.canLayAll0 l = true → PyData.eqvAll l l = true
  | [], _ => by simp [PyData.eqvAll]
  | x :: l, h => by
    rw [PyData.canLayAll0, Bool.and_eq_true] at h
    simp only [PyData.eqvAll, eqv_refl_of x h.1, eqvAll_refl_of l h.2, Bool.and_self]
theorem oEqD_refl {m : Mem} {d : D} {p : PyData} (h : toPy (deref m d) = some p) (hs : SeqAt.shaped p = true) : oEqD m d d = some true := by
  unfold oEqD
  rw [h]
  simp only [hs, Bool.and_self, if_true]
  unfold SeqAt.shaped at hs
  rw [Bool.and_eq_true] at hs
  rw [eqv_refl_of p hs.1]
end Z
namespace Z
open PySem PySem.Spec PyProof.Rows L2
theorem oEq_tup0 (xs : List Int) (m : Mem) : oEq (.tup (xs.map D.int)) (.tup []) m = some (.bl (decide (xs = []))) := by
  have := oEqB_tup xs [] m
  unfold oEq
  rw [show (.tup [] : D) = .tup (([] : List Int).map D.int) from rfl, this]; rfl
theorem oNe_tup0 (xs : List Int) (m : Mem) : oNe (.tup (xs.map D.int)) (.tup []) m = some (.bl (!decide (xs = []))) := by
  have := oEqB_tup xs [] m
  unfold oNe
  rw [show (.tup [] : D) = .tup (([] : List Int).map D.int) from rfl, this]; rfl
theorem oMul_lst1 (d : D) (k : Nat) (m : Mem) (hk : k ≤ 10000000) : oMul (.lst [d]) (.int k) m = some (.lst (List.replicate k d)) := by
  have h : -(2 ^ 63) ≤ (k : Int) ∧ (k : Int) < 2 ^ 63 ∧ ([d] : List D).length * (k : Int).toNat ≤ SL := ⟨by omega, by omega, slLe (by simp; omega)⟩
  unfold oMul
  simp only [asH]
  rw [if_pos h, Int.toNat_natCast, rep_flat1]
end Z
namespace Z
open PySem PySem.Spec PyProof.Rows L2
theorem oEq_tup (xs ys : List Int) (m : Mem) : oEq (.tup (xs.map D.int)) (.tup (ys.map D.int)) m = some (.bl (decide (xs = ys))) := by
  unfold oEq; rw [oEqB_tup]; rfl
theorem oNe_tup (xs ys : List Int) (m : Mem) : oNe (.tup (xs.map D.int)) (.tup (ys.map D.int)) m = some (.bl (!decide (xs = ys))) := by
  unfold oNe; rw [oEqB_tup]; rfl
theorem bd_mpS {f : List Int} {a : Nat} (tf : trim f = f) (hf : f ≠ []) (h : Bd a f) : (mpS f).natAbs < 2 ^ a := by
  have h1 := mpS_dvd f (f.length - 1)
  have h2 := Int.natAbs_dvd_natAbs.2 h1
  have h3 := Nat.le_of_dvd (by have := trim_last tf hf; omega) h2
  have := h (f.length - 1)
  omega
theorem bd_mpR {f : List Int} {a : Nat} (tf : trim f = f) (hf : f ≠ []) (h : Bd a f) : Bd a (mpR f) := fun k => by
  have h1 := co_mpR tf hf k
  have h2 := h k
  rw [h1, Int.natAbs_mul] at h2
  have h3 : 0 < (mpS f).natAbs := by have := mpS_ne tf hf; omega
  exact Nat.lt_of_le_of_lt (Nat.le_mul_of_pos_left _ h3) h2
theorem sim_tupI {m : Mem} (f : List Int) (n : Nat) (hl : f.length ≤ 1000000) : Sim m (n + 2) (.tup (f.map D.int)) (.tup (f.map D.int)) := sim_ints rfl rfl rfl hl
theorem sim_pair {m : Mem} {x y : D} {n : Nat} (hx : Sim m n x x) (hy : Sim m n y y) : Sim m (n + 1) (.tup [x, y]) (.tup [x, y]) := by
  refine .inr ⟨_, _, rfl, rfl, rfl, rfl, by simp, fun i a b ha hb => ?_⟩
  rw [ha] at hb
  cases hb
  match i, ha with
  | 0, ha => cases ha; exact hx
  | 1, ha => cases ha; exact hy
theorem oEq_pair (s : Int) (f : List Int) (m : Mem) : oEq (.tup [.int s, .tup (f.map D.int)]) (.tup [.int s, .tup (f.map D.int)]) m = some (.bl true) := by
  have h : oEqB (.tup [.int s, .tup (f.map D.int)]) (.tup [.int s, .tup (f.map D.int)]) m = oEqD m (.tup [.int s, .tup (f.map D.int)]) (.tup [.int s, .tup (f.map D.int)]) := rfl
  unfold oEq
  rw [h, oEqD_refl (p := .tuple [.int s, .tuple (f.map PyData.int)]) (by simp [deref, toPy, toPyL, toPyL_ints]) (by simp [SeqAt.shaped, PyData.canLay0, PyData.canLayAll0, PyData.depth, PyData.depthAll, sh_ints])]; rfl
end Z

set_option maxRecDepth 100000
set_option maxHeartbeats 2000000
set_option autoImplicit false
namespace Z
open PySem PySem.Spec PyProof.Rows L2
/-! ### fractions -/
def rD (r : Rat) : D := .tup [.int r.num, .int (r.den : Int)]
theorem rat_parts {p q n d s : Int} (hs : s ≠ 0) (hp : p = s * n) (hq : q = s * d) (hd : 0 < d) (hg : Int.gcd n d = 1) : ((p : Rat) / (q : Rat)).num = n ∧ (((p : Rat) / (q : Rat)).den : Int) = d := by
  obtain ⟨k, rfl⟩ := Int.eq_ofNat_of_zero_le (Int.le_of_lt hd)
  have hk : k ≠ 0 := by omega
  have hc : n.natAbs.Coprime k := by
    show Nat.gcd n.natAbs k = 1
    exact hg
  have e : (p : Rat) / (q : Rat) = Rat.divInt n (k : Int) := by
    rw [← Rat.divInt_eq_div, hp, hq, Rat.divInt_mul_left hs]
  have e2 : Rat.divInt n (k : Int) = Rat.mk' n k hk hc := (Rat.mk_eq_divInt ..).symm
  rw [e, e2]
  exact ⟨rfl, rfl⟩
def frS (p q : Int) : Int := if 0 < q then (Int.gcd p q : Int) else -(Int.gcd p q : Int)
theorem frS_ne {p q : Int} (hq : q ≠ 0) : frS p q ≠ 0 := by
  have : Int.gcd p q ≠ 0 := fun h => hq (Int.gcd_eq_zero_iff.1 h).2
  unfold frS
  split <;> omega
theorem frS_parts {p q : Int} (hq : q ≠ 0) : p = frS p q * p.fdiv (frS p q) ∧ q = frS p q * q.fdiv (frS p q) ∧ 0 < q.fdiv (frS p q) ∧ Int.gcd (p.fdiv (frS p q)) (q.fdiv (frS p q)) = 1 := by
  have hs := frS_ne (p := p) hq
  have d1 : frS p q ∣ p := by
    unfold frS
    split
    · exact Int.gcd_dvd_left ..
    · exact Int.neg_dvd.2 (Int.gcd_dvd_left ..)
  have d2 : frS p q ∣ q := by
    unfold frS
    split
    · exact Int.gcd_dvd_right ..
    · exact Int.neg_dvd.2 (Int.gcd_dvd_right ..)
  have e1 := fdiv_exact hs d1
  have e2 := fdiv_exact hs d2
  have ha : (frS p q).natAbs = Int.gcd p q := by unfold frS; split <;> omega
  have hg0 : Int.gcd p q ≠ 0 := fun h => hq (Int.gcd_eq_zero_iff.1 h).2
  refine ⟨e1, e2, ?_, ?_⟩
  · by_cases c : 0 < q
    · have hf : frS p q = Int.gcd p q := if_pos c
      rw [hf] at e2 ⊢
      refine Int.not_le.1 fun h => ?_
      have : (Int.gcd p q : Int) * q.fdiv (Int.gcd p q) ≤ (Int.gcd p q : Int) * 0 := Int.mul_le_mul_of_nonneg_left h (by omega)
      omega
    · have hf : frS p q = -(Int.gcd p q : Int) := if_neg c
      rw [hf] at e2 ⊢
      refine Int.not_le.1 fun h => ?_
      have : (Int.gcd p q : Int) * q.fdiv (-(Int.gcd p q : Int)) ≤ (Int.gcd p q : Int) * 0 := Int.mul_le_mul_of_nonneg_left h (by omega)
      rw [Int.neg_mul] at e2
      omega
  · have h : Int.gcd (frS p q * p.fdiv (frS p q)) (frS p q * q.fdiv (frS p q)) = Int.gcd p q := by rw [← e1, ← e2]
    rw [Int.gcd_mul_left, ha] at h
    exact Nat.eq_of_mul_eq_mul_left (Nat.pos_of_ne_zero hg0) (by omega)
theorem frS_rat {p q : Int} (hq : q ≠ 0) : ((p : Rat) / (q : Rat)).num = p.fdiv (frS p q) ∧ (((p : Rat) / (q : Rat)).den : Int) = q.fdiv (frS p q) := by
  have h := frS_parts (p := p) hq
  exact rat_parts (frS_ne hq) h.1 h.2.1 h.2.2.1 h.2.2.2
theorem rD_frac {p q : Int} (hq : q ≠ 0) : D.tup [.int (p.fdiv (frS p q)), .int (q.fdiv (frS p q))] = rD ((p : Rat) / (q : Rat)) := by
  have h := frS_rat (p := p) hq
  unfold rD
  rw [h.1, h.2]
theorem frS_bits {p q : Int} {a : Nat} (hq : q ≠ 0) (h : q.natAbs < 2 ^ a) : (frS p q).natAbs < 2 ^ a := by
  have h2 : (frS p q).natAbs ∣ q.natAbs := by
    have := (frS_parts (p := p) hq).2.1
    exact Int.natAbs_dvd_natAbs.2 ⟨_, this⟩
  have := Nat.le_of_dvd (by omega) h2
  omega
theorem rat_eq (r : Rat) : (r.num : Rat) / ((r.den : Int) : Rat) = r := by
  have h := Rat.mk_eq_divInt (num := r.num) (den := r.den) (nz := r.den_nz) (c := r.reduced)
  rw [← Rat.divInt_eq_div]
  exact h.symm
theorem den_ne (r : Rat) : ((r.den : Int) : Rat) ≠ 0 := by
  have := r.den_nz
  intro h
  have h' : (r.den : Int) = 0 := Rat.intCast_inj.1 h
  omega
end Z
namespace Z
open PySem PySem.Spec PyProof.Rows L2
def RB (n : Nat) (r : Rat) : Prop := r.num.natAbs < 2 ^ n ∧ r.den < 2 ^ n
theorem RB.up {n m : Nat} {r : Rat} (h : RB n r) (hm : n ≤ m) : RB m r :=
  have := Nat.pow_le_pow_right (n := 2) (by decide) hm
  ⟨Nat.lt_of_lt_of_le h.1 this, Nat.lt_of_lt_of_le h.2 this⟩
theorem RB.frac {n : Nat} {p q : Int} (hq : q ≠ 0) (h1 : p.natAbs < 2 ^ n) (h2 : q.natAbs < 2 ^ n) : RB n ((p : Rat) / (q : Rat)) := by
  have h := frS_parts (p := p) hq
  have e := frS_rat (p := p) hq
  have hs := frS_ne (p := p) hq
  have a : p.natAbs = (frS p q).natAbs * (p.fdiv (frS p q)).natAbs := by rw [← Int.natAbs_mul, ← h.1]
  have b : q.natAbs = (frS p q).natAbs * (q.fdiv (frS p q)).natAbs := by rw [← Int.natAbs_mul, ← h.2.1]
  have c1 : (p.fdiv (frS p q)).natAbs ≤ p.natAbs := by rw [a]; exact Nat.le_mul_of_pos_left _ (by omega)
  have c2 : (q.fdiv (frS p q)).natAbs ≤ q.natAbs := by rw [b]; exact Nat.le_mul_of_pos_left _ (by omega)
  refine ⟨by rw [e.1]; omega, ?_⟩
  have := e.2
  omega
theorem rat_add (a b : Rat) : ((a.num * b.den + b.num * a.den : Int) : Rat) / ((a.den * b.den : Int) : Rat) = a + b := by
  have h1 := rat_eq a
  have h2 := rat_eq b
  have d1 := den_ne a
  have d2 := den_ne b
  rw [Rat.intCast_add, Rat.intCast_mul, Rat.intCast_mul, Rat.intCast_mul]
  generalize hx : (a.num : Rat) = x at *
  generalize hy : ((a.den : Int) : Rat) = y at *
  generalize hz : (b.num : Rat) = z at *
  generalize hw : ((b.den : Int) : Rat) = w at *
  rw [← h1, ← h2]
  grind
theorem rat_mul (a b : Rat) : ((a.num * b.num : Int) : Rat) / ((a.den * b.den : Int) : Rat) = a * b := by
  have h1 := rat_eq a
  have h2 := rat_eq b
  have d1 := den_ne a
  have d2 := den_ne b
  rw [Rat.intCast_mul, Rat.intCast_mul]
  generalize hx : (a.num : Rat) = x at *
  generalize hy : ((a.den : Int) : Rat) = y at *
  generalize hz : (b.num : Rat) = z at *
  generalize hw : ((b.den : Int) : Rat) = w at *
  rw [← h1, ← h2]
  grind
theorem dd_ne (a b : Rat) : (a.den * b.den : Int) ≠ 0 := Int.mul_ne_zero (by have := a.den_nz; omega) (by have := b.den_nz; omega)
theorem RB.add {n m : Nat} {a b : Rat} (ha : RB n a) (hb : RB m b) : RB (n + m + 1) (a + b) := by
  rw [← rat_add]
  have h1 := mul_bits (x := a.num) (y := b.den) ha.1 (by simpa using hb.2)
  have h2 := mul_bits (x := b.num) (y := a.den) hb.1 (by simpa using ha.2)
  have h3 := mul_bits (x := a.den) (y := b.den) (by simpa using ha.2) (by simpa using hb.2)
  rw [Nat.add_comm m n] at h2
  exact RB.frac (dd_ne a b) (by rw [Nat.pow_succ]; omega) (by rw [Nat.pow_succ]; omega)
theorem RB.mul {n m : Nat} {a b : Rat} (ha : RB n a) (hb : RB m b) : RB (n + m) (a * b) := by
  rw [← rat_mul]
  exact RB.frac (dd_ne a b) (mul_bits ha.1 hb.1) (mul_bits (by simpa using ha.2) (by simpa using hb.2))
theorem rD_int (x : Int) : D.tup [.int x, .int 1] = rD (x : Rat) := rfl
theorem RB.int {x : Int} {n : Nat} (h : x.natAbs < 2 ^ n) (hn : 0 < n) : RB n (x : Rat) := ⟨h, by
  show 1 < 2 ^ n
  exact Nat.one_lt_two_pow (by omega)⟩
/-- the value of a row of numbers -/
def evR : List Int → Rat → Rat
  | [], _ => 0
  | a :: f, r => (a : Rat) + r * evR f r
end Z
namespace Z
open PySem PySem.Spec PyProof.Rows L2
theorem evR_snoc0 (f : List Int) (r : Rat) : evR (f ++ [0]) r = evR f r := by
  induction f with
  | nil =>
    show ((0 : Int) : Rat) + r * 0 = 0
    have : ((0 : Int) : Rat) = 0 := rfl
    rw [this]; grind
  | cons a f ih => show (a : Rat) + r * evR (f ++ [0]) r = _; rw [ih]; rfl
theorem evR_trim (f : List Int) (r : Rat) : evR (trim f) r = evR f r := by
  rcases List.eq_nil_or_concat f with rfl | ⟨l, x, rfl⟩
  · rfl
  · by_cases hx : x = 0
    · subst hx
      rw [List.concat_eq_append, trim_snoc0, evR_snoc0]
      exact evR_trim l r
    · rw [List.concat_eq_append, trim_snoc _ hx]
termination_by f.length
decreasing_by simp_all
theorem evR_ext {f g : List Int} (h : ∀ k, co f k = co g k) (r : Rat) : evR f r = evR g r := by
  rw [← evR_trim f, ← evR_trim g, trim_ext h]
def addL : List Int → List Int → List Int
  | [], g => g
  | f, [] => f
  | a :: f, b :: g => (a + b) :: addL f g
theorem co_addL : ∀ (f g : List Int) (k : Nat), co (addL f g) k = co f k + co g k
  | [], g, k => by rw [addL, co_nil, Int.zero_add]
  | a :: f, [], k => by rw [addL, co_nil, Int.add_zero]; intro h; cases h
  | a :: f, b :: g, 0 => rfl
  | a :: f, b :: g, k + 1 => co_addL f g k
theorem evR_addL : ∀ (f g : List Int) (r : Rat), evR (addL f g) r = evR f r + evR g r
  | [], g, r => by rw [addL]; show evR g r = 0 + evR g r; grind
  | a :: f, [], r => by
    have : addL (a :: f) [] = a :: f := rfl
    rw [this]; show _ = evR (a :: f) r + 0; grind
  | a :: f, b :: g, r => by
    show ((a + b : Int) : Rat) + r * evR (addL f g) r = ((a : Rat) + r * evR f r) + ((b : Rat) + r * evR g r)
    rw [evR_addL f g r, Rat.intCast_add]; grind
theorem evR_padd (f g : List Int) (r : Rat) : evR (padd f g) r = evR f r + evR g r := by
  rw [← evR_addL]
  exact evR_ext (fun k => by rw [co_padd, co_addL]) r
theorem evR_map (a : Int) (f : List Int) (r : Rat) : evR (f.map fun y => a * y) r = (a : Rat) * evR f r := by
  induction f with
  | nil => show (0 : Rat) = _ * 0; simp
  | cons b f ih =>
    show ((a * b : Int) : Rat) + r * evR (f.map fun y => a * y) r = (a : Rat) * ((b : Rat) + r * evR f r)
    rw [ih, Rat.intCast_mul]; grind
theorem evR_psc (a : Int) (f : List Int) (r : Rat) : evR (psc a f) r = (a : Rat) * evR f r := by
  unfold psc; rw [evR_trim, evR_map]
def mulL : List Int → List Int → List Int
  | [], _ => []
  | a :: f, g => addL (g.map fun y => a * y) (0 :: mulL f g)
theorem sm_front (n : Nat) (f : Nat → Int) : sm (n + 1) f = f 0 + sm n fun k => f (k + 1) := by
  induction n with
  | zero => rw [sm_succ, sm_zero, sm_zero]; omega
  | succ n ih => rw [sm_succ, ih, sm_succ]; omega
theorem co_mulL : ∀ (f g : List Int) (t : Nat), co (mulL f g) t = cv f g t
  | [], g, t => by rw [mulL, co_nil]; rfl
  | a :: f, g, t => by
    rw [mulL, co_addL, co_map g (fun y => a * y) (Int.mul_zero a)]
    unfold cv
    rw [List.length_cons, sm_front, if_pos (Nat.zero_le _), Nat.sub_zero, show co (a :: f) 0 = a from rfl]
    congr 1
    cases t with
    | zero =>
      rw [show co (0 :: mulL f g) 0 = 0 from rfl]
      exact (sm_eq0 fun k _ => if_neg (by omega)).symm
    | succ t =>
      rw [show co (0 :: mulL f g) (t + 1) = co (mulL f g) t from rfl, co_mulL f g t]
      refine sm_congr fun k _ => ?_
      rw [show co (a :: f) (k + 1) = co f k from rfl]
      by_cases h : k ≤ t
      · rw [if_pos h, if_pos (by omega), show t + 1 - (k + 1) = t - k by omega]
      · rw [if_neg h, if_neg (by omega)]
theorem evR_mulL : ∀ (f g : List Int) (r : Rat), evR (mulL f g) r = evR f r * evR g r
  | [], g, r => by show (0 : Rat) = 0 * _; simp
  | a :: f, g, r => by
    rw [mulL, evR_addL, evR_map]
    show (a : Rat) * evR g r + (((0 : Int) : Rat) + r * evR (mulL f g) r) = ((a : Rat) + r * evR f r) * evR g r
    rw [evR_mulL f g r]
    have : ((0 : Int) : Rat) = 0 := rfl
    rw [this]
    grind
theorem evR_pmul (f g : List Int) (r : Rat) : evR (pmul f g) r = evR f r * evR g r := by
  rw [← evR_mulL]
  exact evR_ext (fun k => by rw [co_pmul, co_mulL]) r
/-- one put into the other -/
def pin : List Int → List Int → List Int
  | [], _ => []
  | a :: f, g => padd (pmul (pin f g) g) (trim [a])
theorem evR_pin : ∀ (f g : List Int) (r : Rat), evR (pin f g) r = evR f (evR g r)
  | [], g, r => rfl
  | a :: f, g, r => by
    rw [pin, evR_padd, evR_pmul, evR_trim, evR_pin f g r]
    show _ + ((a : Rat) + r * 0) = (a : Rat) + evR g r * evR f (evR g r)
    grind
theorem pin_bd {a b : Nat} {g : List Int} (hg : Bd b g) : ∀ (l : List Int), Bd a l → l.length * (g.length + 1) ≤ 64 → Bd (l.length * (a + b + 7)) (pin l g) ∧ (pin l g).length ≤ l.length * (g.length + 1)
  | [], _, _ => ⟨fun k => by rw [show pin [] g = [] from rfl, co_nil]; exact Nat.two_pow_pos _, by simp [pin]⟩
  | x :: l, hl, h => by
    rw [List.length_cons, Nat.succ_mul] at h
    have hl2 : Bd a l := fun k => hl (k + 1)
    have ih := pin_bd hg l hl2 (by omega)
    have h1 : Bd (l.length * (a + b + 7) + b + 6) (pmul (pin l g) g) := Bd.mul ih.1 hg (by omega)
    have h2 : Bd a (trim [x]) := Bd.trim fun k => by
      cases k with
      | zero => exact hl 0
      | succ k => rw [show co [x] (k + 1) = 0 from rfl]; exact Nat.two_pow_pos _
    have h3 := Bd.add h1 h2
    have h4 := pmul_len (pin l g) g
    have h5 := padd_len (pmul (pin l g) g) (trim [x])
    have h6 := trim_len [x]
    rw [List.length_cons, Nat.succ_mul, Nat.succ_mul]
    refine ⟨?_, ?_⟩
    · rw [pin]; exact h3.up (by omega)
    · rw [pin]; simp at h6; omega
end Z
namespace Z
open PySem PySem.Spec PyProof.Rows L2
theorem pow_bits {x : Int} {a : Nat} (h : x.natAbs < 2 ^ a) : ∀ n, (x ^ n).natAbs < 2 ^ (a * n + 1)
  | 0 => by rw [Int.pow_zero, Nat.mul_zero]; decide
  | n + 1 => by
    rw [Int.pow_succ]
    have := mul_bits (pow_bits h n) h
    rw [show a * n + 1 + a = a * (n + 1) + 1 by rw [Nat.mul_succ]; omega] at this
    exact this
/-- stretched: f at x times p / q, freed of fractions -/
def stL (p q : Int) : List Int → List Int
  | [] => []
  | a :: f => (a * q ^ f.length) :: (stL p q f).map fun y => p * y
theorem stL_len (p q : Int) (f : List Int) : (stL p q f).length = f.length := by
  induction f with
  | nil => rfl
  | cons a f ih => rw [stL, List.length_cons, List.length_map, ih, List.length_cons]
theorem co_stL (p q : Int) : ∀ (f : List Int) (k : Nat), k < f.length → co (stL p q f) k = co f k * p ^ k * q ^ (f.length - 1 - k)
  | [], k, h => by simp at h
  | a :: f, 0, h => by
    rw [show co (stL p q (a :: f)) 0 = a * q ^ f.length from rfl, show co (a :: f) 0 = a from rfl, Int.pow_zero, Int.mul_one]; rfl
  | a :: f, k + 1, h => by
    rw [List.length_cons] at h
    have e : co (stL p q (a :: f)) (k + 1) = co ((stL p q f).map fun y => p * y) k := rfl
    rw [e, co_map _ (fun y => p * y) (Int.mul_zero p), co_stL p q f k (by omega), show co (a :: f) (k + 1) = co f k from rfl, Int.pow_succ, List.length_cons, show f.length + 1 - 1 - (k + 1) = f.length - 1 - k by omega]
    generalize p ^ k = u
    generalize q ^ (f.length - 1 - k) = w
    generalize co f k = c
    grind
theorem evR_stL {p q : Int} (hq : (q : Rat) ≠ 0) (r : Rat) : ∀ (f : List Int), f ≠ [] → evR (stL p q f) r = ((q ^ (f.length - 1) : Int) : Rat) * evR f (r * ((p : Rat) / (q : Rat)))
  | [], h => absurd rfl h
  | [a], _ => by
    show ((a * q ^ 0 : Int) : Rat) + r * 0 = ((q ^ 0 : Int) : Rat) * ((a : Rat) + _ * 0)
    rw [Int.pow_zero, Int.mul_one]
    have : ((1 : Int) : Rat) = 1 := rfl
    rw [this]
    grind
  | a :: b :: f, _ => by
    have ih := evR_stL (p := p) hq r (b :: f) (by simp)
    show ((a * q ^ (b :: f).length : Int) : Rat) + r * evR ((stL p q (b :: f)).map fun y => p * y) r = _
    rw [evR_map, ih]
    show _ = _ * ((a : Rat) + (r * ((p : Rat) / (q : Rat))) * evR (b :: f) (r * ((p : Rat) / (q : Rat))))
    generalize evR (b :: f) (r * ((p : Rat) / (q : Rat))) = v
    rw [show (a :: b :: f).length - 1 = (b :: f).length by simp, show (b :: f).length = f.length + 1 by simp, show f.length + 1 - 1 = f.length by omega, Int.pow_succ, Rat.intCast_mul, Rat.intCast_mul]
    generalize ((q ^ f.length : Int) : Rat) = w
    generalize (q : Rat) = y at *
    grind
/-- turned round: the value at 1 / x -/
theorem evR_snoc (f : List Int) (x : Int) (r : Rat) : evR (f ++ [x]) r = evR f r + (x : Rat) * r ^ f.length := by
  induction f with
  | nil => show (x : Rat) + r * 0 = 0 + (x : Rat) * r ^ 0; grind
  | cons a f ih =>
    show (a : Rat) + r * evR (f ++ [x]) r = ((a : Rat) + r * evR f r) + (x : Rat) * r ^ (f.length + 1)
    rw [ih]
    grind
theorem evR_reverse {r : Rat} (hr : r ≠ 0) : ∀ (f : List Int), f ≠ [] → evR f.reverse r = r ^ (f.length - 1) * evR f (1 / r)
  | [], h => absurd rfl h
  | [a], _ => by show (a : Rat) + r * 0 = r ^ 0 * ((a : Rat) + _ * 0); grind
  | a :: b :: f, _ => by
    have ih := evR_reverse hr (b :: f) (by simp)
    rw [List.reverse_cons, evR_snoc, ih]
    show _ = _ * ((a : Rat) + (1 / r) * evR (b :: f) (1 / r))
    generalize evR (b :: f) (1 / r) = v
    rw [List.length_reverse, show (a :: b :: f).length - 1 = f.length + 1 by simp, show (b :: f).length = f.length + 1 by simp, show f.length + 1 - 1 = f.length by omega]
    have : r ^ (f.length + 1) = r ^ f.length * r := by grind
    rw [this]
    generalize r ^ f.length = w
    grind
end Z

set_option maxRecDepth 100000
set_option maxHeartbeats 4000000
set_option autoImplicit false
namespace Z
open PySem PySem.Spec PyProof.Rows L2

/-! ### a written dict of numbers by words, read at once -/
def kvsC (tbl : List (Str × Int)) : List (L2.Key × V) := tbl.map fun kv => (Sum.inr kv.1, V.int kv.2)
def lookD (tbl : List (Str × Int)) (z : Str) : Option Int := (tbl.find? fun kv => decide (kv.1 = z)).map (·.2)
def trsC (tbl : List (Str × Int)) : List (TE × TE) := tbl.map fun kv => (tC (.str kv.1), tC (.int kv.2))
def strV (o : Option (Option D)) (k : Str → Option (Out D)) : Option (Out D) := match o with
  | some (some (.str z)) => k z
  | _ => none
def pGetV (tbl : List (Str × Int)) (i : Nat) (d : Int) : PEF := fun e m => strV e[i]? fun z => some (.ok (.int ((lookD tbl z).getD d)) m)
def pInC (tbl : List (Str × Int)) (i : Nat) : PEF := fun e m => strV e[i]? fun z => some (.ok (.bl (lookD tbl z).isSome) m)
def pIxC (tbl : List (Str × Int)) (i : Nat) : PEF := fun e m => strV e[i]? fun z => match lookD tbl z with
  | some v => some (.ok (.int v) m)
  | none => none
theorem strV_some {o : Option (Option D)} {k : Str → Option (Out D)} {r : Out D} (h : strV o k = some r) : ∃ z, o = some (some (.str z)) ∧ k z = some r := by
  unfold strV at h
  split at h
  · exact ⟨_, rfl, h⟩
  · cases h
theorem tPairs_C : ∀ (tbl : List (Str × Int)) {σ : L2.St} {H : Hp} {R : List (V × V) → Hp → Prop}, R (tbl.map fun kv => (V.str kv.1, V.int kv.2)) H → tPairs (trsC tbl) σ H R
  | [], _, _, _, h => h
  | kv :: tbl, σ, H, R, h => by
    show tPairs (trsC tbl) σ H fun ps H3 => R ((V.str kv.1, V.int kv.2) :: ps) H3
    exact tPairs_C tbl h
theorem valV_C (tbl : List (Str × Int)) (z : Str) : valV (kvsC tbl) (Sum.inr z) = (lookD tbl z).map V.int := by
  induction tbl with
  | nil => rfl
  | cons kv tbl ih =>
    by_cases h : kv.1 = z
    · rw [show kvsC (kv :: tbl) = (Sum.inr kv.1, V.int kv.2) :: kvsC tbl from rfl, valV_pos (by rw [h])]
      simp [lookD, h]
    · rw [show kvsC (kv :: tbl) = (Sum.inr kv.1, V.int kv.2) :: kvsC tbl from rfl, valV_neg (fun e => h (Sum.inr.inj e)), ih]
      simp [lookD, h]
section
variable {X : Cx} {W : WX}
theorem me_getV {i : Nat} {x : Str} {p1 dpos apos cpos : Pos} {keys : List (Option Expr)} {vals : List Expr} {f : Expr} {tbl : List (Str × Int)} {d : Int}
    (hu : X.A.units + 1 < cLine) (hp : PPs X dpos keys vals (trsC tbl)) (hf : PE X f (tC (.int d)))
    (hN : X.N[i]? = some x := by rfl) (hv : Vis X.env.scope x := by first | exact Or.inl rfl | exact Or.inr (Or.inl rfl) | exact Or.inr (Or.inr rfl)) (hd : (x == ("__debug__" : Str)) = false := by decide)
    (hcd : (x == ("__classdict__" : Str)) = false := by decide) (hall : keys.all (·.isSome) = true := by rfl) (hl : keys.length = vals.length := by rfl) (h0 : keys ≠ [] := by exact fun z => by cases z) (h15 : keys.length ≤ 15 := by decide)
    (hmg : mergeK [] (kvsC tbl) = kvsC tbl := by kernel_rfl) (ht : tbl.length ≤ 15 := by decide) (m : M2 X (.Dict keys vals dpos) "get" apos (.Name x p1) f cpos := by exact ⟨rfl, rfl, rfl, rfl⟩) :
    ME X W (.Call (.Attribute (.Dict keys vals dpos) "get" apos) [.Name x p1, f] [] cpos) (pGetV tbl i d) :=
  PE.imp (pe_dget2 hu (pe_disp hp hall hl h0 h15) (pe_var hN hv hd hcd) hf m) fun σ H Q ⟨w, m, e, r, g, ev, h, q⟩ => by
    obtain ⟨z, hz, h⟩ := strV_some h
    cases h
    obtain ⟨v, h1, h2⟩ := ev.2 i _ hz
    obtain rfl := rep_str h2
    intro p hp
    refine tPairs_C tbl ⟨upd_same, kvsC tbl, ?_, ?_, ?_⟩
    · simp [kvsC, kV]
    · simpa [kvsC] using ht
    · rw [hmg, upd_upd]
      refine ⟨p, rfl, .inl ⟨_, .inl upd_same⟩, _, h1, _, DGet.k (k := Sum.inr z) upd_same, ?_⟩
      rw [valV_C]
      have e : ((lookD tbl z).map V.int).getD (.int d) = V.int ((lookD tbl z).getD d) := by cases lookD tbl z <;> rfl
      rw [e]
      exact q w _ _ (g.new hp) (Ext.new g hp) (by simp only [Rep])
/-- the module's written dict -/
structure ConD (K : PySem.W.Frag) (w0 : World) (mg : Str → Option Value) (x : Str) (tbl : List (Str × Int)) : Prop where
  ex : ∃ (a : Addr) (es : Array DictEntry) (n : Nat), mg x = some (.ref a) ∧ KDict K w0 a es n ∧ ∀ z, (∀ i, lookD tbl z = some i → ∃ u, PySem.W.nsIn K a z = some (some u) ∧ RelV (.int i) u) ∧ (lookD tbl z = none → PySem.W.nsIn K a z = some none)
theorem me_inC {i : Nat} {x g : Str} {p1 p2 pos : Pos} {tbl : List (Str × Int)} (c : ConD X.K X.w X.mg g tbl) (hg : Gl X g)
    (hN : X.N[i]? = some x := by rfl) (hv : Vis X.env.scope x := by first | exact Or.inl rfl | exact Or.inr (Or.inl rfl) | exact Or.inr (Or.inr rfl)) (hd : (x == ("__debug__" : Str)) = false := by decide)
    (hcd : (x == ("__classdict__" : Str)) = false := by decide) (hd2 : (g == ("__debug__" : Str)) = false := by decide) (hm : behindInMarks .In (.Name g p2) = false := by rfl) :
    ME X W (.Compare (.Name x p1) [.In] [.Name g p2] pos) (pInC tbl i) := by
  obtain ⟨a, es, n, hmg, kd, hk⟩ := c.ex
  refine PE.imp (pe_cmpR (op_in_kd kd) (pe_var hN hv hd hcd) (pe_glob hg hmg (v := .ref a) rfl hd2) hm) fun σ H Q ⟨w, m, e, r, gd, ev, h, q⟩ => ?_
  obtain ⟨z, hz, h⟩ := strV_some h
  cases h
  obtain ⟨v, h1, h2⟩ := ev.2 i _ hz
  obtain rfl := rep_str h2
  refine ⟨_, h1, ?_⟩
  cases hl : lookD tbl z with
  | none => exact ⟨z, none, rfl, rfl, (hk z).2 hl, q w _ H gd Ext.refl (by simp only [Rep, hl]; rfl)⟩
  | some k =>
    obtain ⟨u, hu, _⟩ := (hk z).1 k hl
    exact ⟨z, some u, rfl, rfl, hu, q w _ H gd Ext.refl (by simp only [Rep, hl]; rfl)⟩
theorem me_ixC {i : Nat} {x g : Str} {p1 p2 pos : Pos} {tbl : List (Str × Int)} (c : ConD X.K X.w X.mg g tbl) (hg : Gl X g)
    (hN : X.N[i]? = some x := by rfl) (hv : Vis X.env.scope x := by first | exact Or.inl rfl | exact Or.inr (Or.inl rfl) | exact Or.inr (Or.inr rfl)) (hd : (x == ("__debug__" : Str)) = false := by decide)
    (hcd : (x == ("__classdict__" : Str)) = false := by decide) (hd2 : (g == ("__debug__" : Str)) = false := by decide) (hs : PlainIx (.Name x p1) := by exact fun _ _ => rfl) :
    ME X W (.Subscript (.Name g p2) (.Name x p1) pos) (pIxC tbl i) := by
  obtain ⟨a, es, n, hmg, kd, hk⟩ := c.ex
  refine PE.imp (pe_ix ix_kdict (pe_glob hg hmg (v := .ref a) rfl hd2) (pe_var hN hv hd hcd) hs) fun σ H Q ⟨w, m, e, r, gd, ev, h, q⟩ => ?_
  obtain ⟨z, hz, h⟩ := strV_some h
  obtain ⟨v, h1, h2⟩ := ev.2 i _ hz
  obtain rfl := rep_str h2
  cases hl : lookD tbl z with
  | none => rw [hl] at h; cases h
  | some k =>
    rw [hl] at h
    cases h
    obtain ⟨u, hu, hr⟩ := (hk z).1 k hl
    exact ⟨_, h1, a, z, _, rfl, rfl, ⟨es, n, u, kd.at_, kd.lit, hu, hr⟩, q w _ H gd Ext.refl (by simp only [Rep])⟩
theorem pe_negC {k : Int} {j} {p1 pos : Pos} : PE X (.UnaryOp .USub (.Constant (.int k) j p1) pos) (tC (.int (-k))) := PE.imp (pe_un un_neg pe_int) fun σ H Q h => ⟨k, rfl, h⟩
end
/-! simp rows -/
@[simp] theorem strV_str (z : Str) (k : Str → Option (Out D)) : strV (some (some (.str z))) k = k z := id rfl
@[simp] theorem pGetV_app (tbl : List (Str × Int)) (i : Nat) (d : Int) (e : Ev) (m : Mem) : pGetV tbl i d e m = strV e[i]? fun z => some (.ok (.int ((lookD tbl z).getD d)) m) := id rfl
@[simp] theorem pInC_app (tbl : List (Str × Int)) (i : Nat) (e : Ev) (m : Mem) : pInC tbl i e m = strV e[i]? fun z => some (.ok (.bl (lookD tbl z).isSome) m) := id rfl
def ixO (o : Option Int) (m : Mem) : Option (Out D) := match o with
  | some v => some (.ok (.int v) m)
  | none => none
@[simp] theorem ixO_s (v : Int) (m : Mem) : ixO (some v) m = some (.ok (.int v) m) := id rfl
@[simp] theorem pIxC_app (tbl : List (Str × Int)) (i : Nat) (e : Ev) (m : Mem) : pIxC tbl i e m = strV e[i]? fun z => ixO (lookD tbl z) m := id rfl
end Z
namespace Z
open PySem PySem.Spec PyProof.Rows L2
section
variable {X : Cx} {W : WX}
theorem mt_inC {i : Nat} {x g : Str} {p1 p2 pos : Pos} {tbl : List (Str × Int)} (c : ConD X.K X.w X.mg g tbl) (hg : Gl X g)
    (hN : X.N[i]? = some x := by rfl) (hv : Vis X.env.scope x := by first | exact Or.inl rfl | exact Or.inr (Or.inl rfl) | exact Or.inr (Or.inr rfl)) (hd : (x == ("__debug__" : Str)) = false := by decide)
    (hcd : (x == ("__classdict__" : Str)) = false := by decide) (hd2 : (g == ("__debug__" : Str)) = false := by decide) (hm : behindInMarks .In (.Name g p2) = false := by rfl) :
    MT X W (.Compare (.Name x p1) [.In] [.Name g p2] pos) (pTst (pInC tbl i)) := by
  obtain ⟨a, es, n, hmg, kd, hk⟩ := c.ex
  refine PT.imp (pt_cmpR (op_in_kd kd) (pe_var hN hv hd hcd) (pe_glob hg hmg (v := .ref a) rfl hd2) hm) fun σ H Q ⟨w, m, e, r, gd, ev, h, q⟩ => ?_
  unfold pTst at h
  cases hz : e[i]? with
  | none => rw [pInC, hz] at h; cases h
  | some o =>
    cases o with
    | none => rw [pInC, hz] at h; cases h
    | some d =>
      rw [pInC, hz] at h
      cases d with
      | str z =>
        cases h
        obtain ⟨v, h1, h2⟩ := ev.2 i _ hz
        obtain rfl := rep_str h2
        refine ⟨_, h1, ?_⟩
        cases hl : lookD tbl z with
        | none =>
          rw [hl] at q
          exact ⟨z, none, rfl, rfl, (hk z).2 hl, _, rfl, q w H gd Ext.refl⟩
        | some k =>
          rw [hl] at q
          obtain ⟨u, hu, _⟩ := (hk z).1 k hl
          exact ⟨z, some u, rfl, rfl, hu, _, rfl, q w H gd Ext.refl⟩
      | _ => cases h
def pNone : PEF := fun _ _ => none
def sNone : PSF := fun _ _ => none
/-- what is not reached -/
theorem me_none {e : Expr} : ME X W e pNone := ⟨fun pins s σ H Q I ⟨_, _, _, _, _, _, h, _⟩ => by cases h⟩
theorem ms_none {st : Stmt} : MS X W st sNone := ⟨fun pins s σ H D I ⟨_, _, _, _, _, _, h, _⟩ => by cases h⟩
end
def keyS (e : DictEntry) : Option Str := match e.key with
  | .str x _ => some x
  | _ => none
def keysB (K : PySem.W.Frag) (a : Addr) (ks : List Str) : Bool := match K.lookup a with
  | some ⟨_, _, .dict es _, _⟩ => decide (es.toList.map keyS = ks.map some)
  | _ => false
theorem nsIn_out {K : PySem.W.Frag} {a : Addr} {ks : List Str} {z : Str} (h : keysB K a ks = true) (hz : z ∉ ks) : PySem.W.nsIn K a z = some none := by
  unfold keysB at h
  unfold PySem.W.nsIn
  split at h
  · rename_i es n sl q
    rw [q]
    have h := of_decide_eq_true h
    have key : ∀ e ∈ es.toList, ∃ x t, e.key = .str x t ∧ x ∈ ks := fun e he => by
      have h1 : keyS e ∈ es.toList.map keyS := List.mem_map_of_mem he
      rw [h] at h1
      obtain ⟨x, hx, h2⟩ := List.mem_map.1 h1
      unfold keyS at h2
      split at h2
      · rename_i y t hy
        cases h2
        exact ⟨_, _, hy, hx⟩
      · cases h2
    have f0 : es.toList.find? (·.key.isStr z) = none := by
      rw [List.find?_eq_none]
      intro e he hs
      obtain ⟨x, t, hx, hk⟩ := key e he
      rw [hx] at hs
      have : x = z := by simpa [Value.isStr] using hs
      exact hz (this ▸ hk)
    have r0 : es.toList.any (·.refKey) = false := by
      rw [List.any_eq_false]
      intro e he
      obtain ⟨x, t, hx, hk⟩ := key e he
      simp [DictEntry.refKey, hx]
    simp [f0, r0]
  · cases h
theorem conD_of {K : PySem.W.Frag} {w0 : World} {mg : Str → Option Value} {x : Str} {tbl : List (Str × Int)} (hm : mg x = some (.ref (He.ga K x))) (hk : ∃ es n, KDict K w0 (He.ga K x) es n)
    (h1 : keysB K (He.ga K x) (tbl.map (·.1)) = true) (h2 : He.valsB K (He.ga K x) (tbl.map fun kv => (kv.1, He.Dv.int kv.2)) = true) : ConD K w0 mg x tbl := by
  obtain ⟨es, n, hk⟩ := hk
  refine ⟨_, es, n, hm, hk, fun z => ⟨fun i hi => ?_, fun hn => ?_⟩⟩
  · unfold lookD at hi
    cases hf : tbl.find? (fun kv => decide (kv.1 = z)) with
    | none => rw [hf] at hi; cases hi
    | some kv =>
      rw [hf] at hi
      cases hi
      have hz : kv.1 = z := by have := List.find?_some hf; simpa using this
      have hmem := List.mem_of_find?_eq_some hf
      obtain ⟨u, hu, hr⟩ := He.valsB_ok h2 (List.mem_map_of_mem (f := fun kv : Str × Int => (kv.1, He.Dv.int kv.2)) hmem)
      rw [← hz]
      exact ⟨u, hu, hr⟩
  · refine nsIn_out h1 fun hz => ?_
    obtain ⟨kv, hmem, rfl⟩ := List.mem_map.1 hz
    unfold lookD at hn
    have : tbl.find? (fun k => decide (k.1 = kv.1)) = none := by
      cases hf : tbl.find? (fun k => decide (k.1 = kv.1)) with
      | none => rfl
      | some _ => rw [hf] at hn; cases hn
    rw [List.find?_eq_none] at this
    exact this kv hmem (decide_eq_true rfl)
theorem hu1 {k : Nat} {A : Around} (r : Room k A) : A.units + 1 < cLine := by have := r.un; omega
/-! rows for slices, words -/
theorem cutD_1 (a : D) (r : List D) : cutD (a :: r) (some 1) none = r := by
  unfold cutD
  have h : HT.sIx (a :: r).length 0 (some 1) = 1 := by
    simp [HT.sIx]
    try omega
  have h2 : HT.sIx (a :: r).length (a :: r).length none = (a :: r).length := rfl
  rw [h, h2]
  simp
end Z

set_option maxRecDepth 100000
set_option maxHeartbeats 4000000
set_option autoImplicit false
namespace Z
open PySem PySem.Spec PyProof.Rows L2

/-! ### values at large: how deep, how long -/
def Ok (A : D → Prop) (L : Nat) : Nat → D → Prop
  | n + 1, .tup l => l.length ≤ L ∧ ∀ x ∈ l, Ok A L n x
  | n + 1, .lst l => l.length ≤ L ∧ ∀ x ∈ l, Ok A L n x
  | 0, .tup _ => False
  | 0, .lst _ => False
  | _, .ro _ => False
  | _, .loc _ => False
  | _, .non => A .non
  | _, .bl b => A (.bl b)
  | _, .int i => A (.int i)
  | _, .str s => A (.str s)
section
variable {A B : D → Prop} {L M : Nat}
theorem Ok.tup {n : Nat} {l : List D} (h : Ok A L n (.tup l)) : l.length ≤ L ∧ ∃ k, n = k + 1 ∧ ∀ x ∈ l, Ok A L k x := by
  cases n with
  | zero => exact h.elim
  | succ n => exact ⟨h.1, n, rfl, h.2⟩
theorem Ok.lst {n : Nat} {l : List D} (h : Ok A L n (.lst l)) : l.length ≤ L ∧ ∃ k, n = k + 1 ∧ ∀ x ∈ l, Ok A L k x := by
  cases n with
  | zero => exact h.elim
  | succ n => exact ⟨h.1, n, rfl, h.2⟩
theorem Ok.mono (hA : ∀ d, A d → B d) (hL : L ≤ M) : ∀ {n k : Nat} {d : D}, n ≤ k → Ok A L n d → Ok B M k d
  | n, k, .tup l, hn, h => by
    obtain ⟨h1, j, rfl, h2⟩ := h.tup
    obtain ⟨i, rfl⟩ : ∃ i, k = i + 1 := ⟨k - 1, by omega⟩
    exact ⟨by omega, fun x hx => Ok.mono hA hL (by omega) (h2 x hx)⟩
  | n, k, .lst l, hn, h => by
    obtain ⟨h1, j, rfl, h2⟩ := h.lst
    obtain ⟨i, rfl⟩ : ∃ i, k = i + 1 := ⟨k - 1, by omega⟩
    exact ⟨by omega, fun x hx => Ok.mono hA hL (by omega) (h2 x hx)⟩
  | n, k, .ro _, hn, h => by cases n <;> exact h.elim
  | n, k, .loc _, hn, h => by cases n <;> exact h.elim
  | n, k, .non, hn, h => by cases n <;> cases k <;> exact hA _ h
  | n, k, .bl _, hn, h => by cases n <;> cases k <;> exact hA _ h
  | n, k, .int _, hn, h => by cases n <;> cases k <;> exact hA _ h
  | n, k, .str _, hn, h => by cases n <;> cases k <;> exact hA _ h
theorem Ok.int {n : Nat} {i : Int} : Ok A L n (.int i) ↔ A (.int i) := by cases n <;> exact Iff.rfl
theorem Ok.str {n : Nat} {i : Str} : Ok A L n (.str i) ↔ A (.str i) := by cases n <;> exact Iff.rfl
theorem Ok.non {n : Nat} : Ok A L n .non ↔ A .non := by cases n <;> exact Iff.rfl
theorem Ok.bl {n : Nat} {b : Bool} : Ok A L n (.bl b) ↔ A (.bl b) := by cases n <;> exact Iff.rfl
theorem Ok.mk {n : Nat} {l : List D} (h : l.length ≤ L) (hx : ∀ x ∈ l, Ok A L n x) : Ok A L (n + 1) (.tup l) := ⟨h, hx⟩
theorem Ok.mkL {n : Nat} {l : List D} (h : l.length ≤ L) (hx : ∀ x ∈ l, Ok A L n x) : Ok A L (n + 1) (.lst l) := ⟨h, hx⟩
end
/-- going in: small numbers, short texts; coming out -/
def Ai : D → Prop
  | .int i => i.natAbs < 2 ^ 1000
  | .str s => PyData.strOk s = true ∧ s.length ≤ 1000
  | _ => True
def At : D → Prop
  | .str s => PyData.strOk s = true
  | _ => True
theorem Ai.at {d : D} (h : Ai d) : At d := by
  cases d with
  | str s => exact h.1
  | _ => trivial
theorem strOk_of (s : String) : PyData.strOk (Str.ofString s) = true := by
  rw [Str.ofString_eq_toList]
  unfold PyData.strOk
  rw [Array.all_eq_true']
  intro c hc
  obtain ⟨ch, _, rfl⟩ := List.mem_map.1 (List.mem_toArray.1 hc)
  have := ch.valid
  have h : ch.toNat = ch.val.toNat := rfl
  rw [h]
  rcases this with h | h <;> simp <;> omega
theorem strOk_app {a b : Str} (ha : PyData.strOk a = true) (hb : PyData.strOk b = true) : PyData.strOk (a ++ b) = true := by
  unfold PyData.strOk at *
  show (a.cps ++ b.cps).all _ = true
  rw [Array.all_append, ha, hb]; rfl
mutual
theorem Ok.py {L : Nat} : ∀ {n : Nat} {d : D}, Ok At L n d → ∃ p, toPy d = some p ∧ p.canLay0 = true ∧ p.depth ≤ n
  | n, .tup l, h => by
    obtain ⟨_, k, rfl, h2⟩ := h.tup
    obtain ⟨ps, h3, h4, h5⟩ := okL_py h2
    exact ⟨.tuple ps, by simp only [toPy, h3], h4, by simp only [PyData.depth]; omega⟩
  | n, .lst l, h => by
    obtain ⟨_, k, rfl, h2⟩ := h.lst
    obtain ⟨ps, h3, h4, h5⟩ := okL_py h2
    exact ⟨.list ps, by simp only [toPy, h3], h4, by simp only [PyData.depth]; omega⟩
  | n, .ro _, h => by cases n <;> exact h.elim
  | n, .loc _, h => by cases n <;> exact h.elim
  | n, .non, h => ⟨_, rfl, rfl, by simp [PyData.depth]⟩
  | n, .bl _, h => ⟨_, rfl, rfl, by simp [PyData.depth]⟩
  | n, .int _, h => ⟨_, rfl, rfl, by simp [PyData.depth]⟩
  | n, .str _, h => ⟨_, rfl, by have := Ok.str.1 h; exact this, by simp [PyData.depth]⟩
theorem okL_py {L : Nat} : ∀ {n : Nat} {l : List D}, (∀ x ∈ l, Ok At L n x) → ∃ ps, toPyL l = some ps ∧ PyData.canLayAll0 ps = true ∧ PyData.depthAll ps ≤ n
  | n, [], h => ⟨[], rfl, rfl, by simp [PyData.depthAll]⟩
  | n, d :: l, h => by
    obtain ⟨p, h1, h2, h3⟩ := Ok.py (h d (List.mem_cons_self ..))
    obtain ⟨ps, h4, h5, h6⟩ := okL_py fun x hx => h x (List.mem_cons_of_mem _ hx)
    exact ⟨p :: ps, by simp only [toPyL, h1, h4], by simp only [PyData.canLayAll0, h2, h5]; rfl, by simp only [PyData.depthAll]; omega⟩
end
theorem cutD_len (l : List D) (lo hi : Option Int) : (cutD l lo hi).length ≤ l.length := by
  unfold cutD
  rw [List.length_take, List.length_drop]
  omega
theorem cutD_mem {l : List D} {lo hi : Option Int} {x : D} (h : x ∈ cutD l lo hi) : x ∈ l := List.mem_of_mem_drop (List.mem_of_mem_take h)
def mpD (f : List Int) : D := if f = [] then .tup [.int 0, .tup []] else .tup [.int (mpS f), tupI (mpR f)]
end Z

set_option maxRecDepth 100000
set_option maxHeartbeats 4000000
set_option autoImplicit false
namespace Z
open PySem PySem.Spec PyProof.Rows L2
theorem oIsNot_int (k : Int) (m : Mem) : oIsNot (.int k) .non m = some (.bl true) := rfl
theorem oIsNot_non (m : Mem) : oIsNot .non .non m = some (.bl false) := rfl
def isNonD : D → Bool
  | .non => true
  | _ => false
theorem oIs_non (d : D) (m : Mem) : oIs d .non m = some (.bl (isNonD d)) := by cases d <;> rfl
def nnD : D → Bool
  | .int i => decide (0 ≤ i)
  | _ => false
theorem all_lc (f : D → Bool) (l : List D) (m : Mem) : oAll [.lst ((l.filter fun _ => true).map fun d => .bl (f d))] m = some (.bl (l.all f)) := by
  rw [List.filter_eq_self.2 (fun _ _ => rfl)]
  simp only [oAll, asL, blsOf_map, List.all_map]; rfl
theorem cnt_lc (f : D → Bool) (l : List D) : decide ((((l.filter fun d => !f d).map fun d => d).length : Int) = 0) = l.all f := by
  rw [List.map_id']
  by_cases h : l.all f = true
  · rw [h]
    have h0 : (l.filter fun d => !f d) = [] := List.filter_eq_nil_iff.2 fun d hd => by
      have := List.all_eq_true.1 h d hd
      simp [this]
    rw [h0]; rfl
  · have h1 : (l.filter fun d => !f d) ≠ [] := fun c => h (List.all_eq_true.2 fun d hd => by
      have := List.filter_eq_nil_iff.1 c d hd
      simpa using this)
    have h2 := List.length_pos_iff.2 h1
    have h3 : l.all f = false := by simpa using h
    rw [h3, decide_eq_false]
    omega
def numsD (k : Int) : D → Bool
  | .tup l => decide ((l.length : Int) = k) && l.all isIntD
  | _ => false
def frD : D → Bool
  | .tup [.int p, .int q] => decide (0 < q) && decide (Int.gcd p q = 1)
  | _ => false
theorem oNe_str (a b : Str) (m : Mem) : oNe (.str a) (.str b) m = some (.bl (!decide (a = b))) := rfl
theorem dec_comm (a b : Str) : decide (a = b) = decide (b = a) := by rw [Bool.eq_iff_iff]; simp; exact eq_comm
theorem beq_dec (a b : Str) : (a == b) = decide (a = b) := by rw [Bool.eq_iff_iff]; simp
theorem oIn_str2 (w a b : Str) (m : Mem) (hw : PyData.strOk w = true) (ha : PyData.strOk a = true) (hb : PyData.strOk b = true) : oIn (.str w) (.tup [.str a, .str b]) m = some (.bl (decide (w = a) || decide (w = b))) := by
  unfold oIn oInB
  simp only [deref, toPy, toPyL, inL]
  simp [PyData.canLay0, PyData.canLayAll0, hw, ha, hb, PyData.depth, PyData.eqv, toBl, beq_dec]
  rw [dec_comm a w, dec_comm b w]
theorem oInt_bl (b : Bool) (m : Mem) : oInt [.bl b] m = some (.int (b2i b)) := by cases b <;> rfl
theorem cut01 (a : D) (r : List D) : cutD (a :: r) none (some 1) = [a] := by
  have := cutD_take (a :: r) 1
  simpa using this
theorem polyD_of {f : List Int} (tf : trim f = f) : isPolyD (.tup (f.map D.int)) = true := by
  have ha : (f.map D.int).all isIntD = true := by simp [isIntD]
  simp only [isPolyD, ha, Bool.true_and]
  rcases List.eq_nil_or_concat f with rfl | ⟨zs, z, rfl⟩
  · rfl
  · rw [List.concat_eq_append] at *
    have hz := trim_last tf (by simp)
    have : co (zs ++ [z]) ((zs ++ [z]).length - 1) = z := by simp [co]
    rw [this] at hz
    rw [lastNz_ints]
    simpa using hz
theorem lt1000 {n : Nat} (h : n < 2 ^ 10) : n < 2 ^ 1000 := Nat.lt_of_lt_of_le h (Nat.pow_le_pow_right (by decide) (by decide))
theorem aiS (s : String) (h : (Str.ofString s).length ≤ 1000) {L n : Nat} : Ok Ai L n (.str (Str.ofString s)) := Ok.str.2 ⟨strOk_of s, h⟩
theorem aiI {i : Int} (h : i.natAbs < 2 ^ 10) {L n : Nat} : Ok Ai L n (.int i) := Ok.int.2 (Nat.lt_of_lt_of_le h (Nat.pow_le_pow_right (by decide) (by decide)))
theorem ok_tup {L n : Nat} {l : List D} (h : l.length ≤ L) (hx : ∀ x ∈ l, Ok Ai L n x) : Ok Ai L (n + 1) (.tup l) := ⟨h, hx⟩

def Ab : D → Prop
  | .int i => i.natAbs < 2 ^ 2000
  | .str s => PyData.strOk s = true
  | _ => True
theorem Ai.ab {d : D} (h : Ai d) : Ab d := by
  cases d with
  | int i => exact Nat.lt_of_lt_of_le h (Nat.pow_le_pow_right (by decide) (by decide))
  | str s => exact h.1
  | _ => trivial
theorem Ab.at {d : D} (h : Ab d) : At d := by
  cases d with
  | str s => exact h
  | _ => trivial
theorem ab_near {i j : Int} (h : i.natAbs < 2 ^ 1000) (hj : j.natAbs ≤ i.natAbs + 9) : j.natAbs < 2 ^ 2000 := by
  have h2 : 2 ^ 1000 + 9 ≤ 2 ^ 2000 := by
    have : (2 : Nat) ^ 2000 = 2 ^ 1000 * 2 ^ 1000 := by rw [← Nat.pow_add]
    rw [this]
    generalize hx : (2 : Nat) ^ 1000 = x
    have h9 : 2 ^ 10 ≤ x := by rw [← hx]; exact Nat.pow_le_pow_right (by decide) (by decide)
    have := Nat.mul_le_mul_right x h9
    omega
  omega
theorem ab_small {j : Int} (hj : j.natAbs ≤ 1000) : j.natAbs < 2 ^ 2000 := Nat.lt_of_lt_of_le (show j.natAbs < 2 ^ 10 by omega) (Nat.pow_le_pow_right (by decide) (by decide))
theorem ab_mul {i j : Int} (h : Ab (.int i)) (k : Ab (.int j)) : mulFits i j = true := mulF_b (n := 2000) (by decide) h k

/-! != of a list and the empty one, whatever the list holds -/
def oNeL : VK2 := fun a b m => match asL m a, b with
  | some l, .lst [] => some (.bl (!l.isEmpty))
  | _, _ => none
section
variable {X : Cx}
theorem op_oNeL (hu : X.A.units < cLine) : OpR X (compareOp .NotEq) (r2of X oNeL) := by
  intro pins s σ H x y v u Q I rx ry h
  obtain ⟨w, m, d, e, r, g, hx, hy, h, q⟩ := h
  unfold oNeL at h
  split at h
  · rename_i l hl
    cases h
    obtain ⟨a, xs, rfl, ha, hr⟩ := asL_rep g hx hl
    obtain ⟨b, ys, rfl, hb, hr2⟩ := asL_rep g hy (l := []) rfl
    cases rx
    cases ry
    obtain ⟨its, r1, p1, z1⟩ := I.list ha
    obtain ⟨its2, r2, p2, z2⟩ := I.list hb
    have l1 := hr.len
    have l2 := hr2.len
    have n1 := r1.length
    have n2 := r2.length
    have hq := q w _ H g Ext.refl (by simp only [Rep]; rfl)
    have e2 : its2.toArray.size = 0 := by simp only [List.size_toArray, List.length_nil] at *; omega
    cases l with
    | nil =>
      exact SeqAt.RcNeAt.lists (e := fun _ => true) p1.isList p2.isList (by simp only [List.size_toArray, List.length_nil] at *; omega) hu (fun j h1 h2 => absurd h2 (by rw [e2]; omega)) _ _ _ _ ⟨.bl false, H, I, by
        have : its.toArray.size = 0 := by simp only [List.size_toArray, List.length_nil] at *; omega
        rw [this]; rfl, hq⟩
    | cons c l =>
      exact SeqAt.RcNeAt.lists_lengths p1.isList p2.isList (by simp only [List.size_toArray, List.length_nil, List.length_cons] at *; simp; omega) hu _ _ _ _ ⟨.bl true, H, I, rfl, hq⟩
  · cases h
end
mutual
def szD : D → Nat
  | .tup l => szL l + 1
  | .lst l => szL l + 1
  | .ro l => szL l + 1
  | _ => 1
def szL : List D → Nat
  | [] => 0
  | d :: l => szD d + szL l
end
def wlFuel (i : Nat) : Ev → Mem → Nat := fun e m => match e[i]? with
  | some (some (.loc j)) => (match m[j]? with
    | some (.lst l) => szL l + 1
    | _ => 0)
  | _ => 0
theorem szL_app (a b : List D) : szL (a ++ b) = szL a + szL b := by
  induction a with
  | nil => simp [szL]
  | cons d a ih => simp only [List.cons_append, szL, ih]; omega
theorem szD_pos (d : D) : 0 < szD d := by cases d <;> simp [szD]
end Z

set_option maxRecDepth 100000
set_option maxHeartbeats 4000000
set_option autoImplicit false
namespace Z
open PySem PySem.Spec PyProof.Rows L2
/-! < of pairs of a number and a row of numbers -/
def keyLt (i : Int) (ns : List Int) (j : Int) (ms : List Int) : Bool := if i = j then HT.lexLt ns ms else decide (i < j)
def oLtK : VK2 := fun a b _ => match a, b with
  | .tup [.int i, .tup l], .tup [.int j, .tup r] => match intsOf l, intsOf r with
    | some ns, some ms => some (.bl (keyLt i ns j ms))
    | _, _ => none
  | _, _ => none
theorem lexLt_self : ∀ ns : List Int, HT.lexLt ns ns = false
  | [] => rfl
  | x :: xs => by simp only [HT.lexLt, if_true]; exact lexLt_self xs
section
variable {X : Cx}
theorem op_oLtK (hu : X.A.units + 64 < cLine) : OpR X (compareOp .Lt) (r2of X oLtK) := by
  intro pins s σ H x y v u Q I rx ry h
  obtain ⟨w, m, d, e, r, g, hx, hy, h, q⟩ := h
  unfold oLtK at h
  split at h
  · rename_i i l j r'
    split at h
    · rename_i ns ms h1 h2
      cases h
      obtain ⟨a, xs, rfl, ha, hl⟩ := asT_rep hx rfl
      obtain ⟨b, ys, rfl, hb, hr⟩ := asT_rep hy rfl
      obtain ⟨v1, v2, rfl, rv1, rv2⟩ := repL2 hl
      obtain ⟨u1, u2, rfl, ru1, ru2⟩ := repL2 hr
      obtain rfl := rep_int rv1
      obtain rfl := rep_int ru1
      have dp1 : Dp X.K H v2 (.tuple (ns.map PyData.int)) := toPy_dp rv2 (by rw [intsOf_eq h1]; simp only [toPy, toPyL_ints])
      have dp2 : Dp X.K H u2 (.tuple (ms.map PyData.int)) := toPy_dp ru2 (by rw [intsOf_eq h2]; simp only [toPy, toPyL_ints])
      obtain ⟨a2, xs2, rfl, ha2, hl2⟩ := asT_rep rv2 rfl
      obtain ⟨b2, ys2, rfl, hb2, hr2⟩ := asT_rep ru2 rfl
      rw [intsOf_eq h1] at hl2
      rw [intsOf_eq h2] at hr2
      rw [hl2.ints] at ha2
      rw [hr2.ints] at hb2
      cases rx
      cases ry
      obtain ⟨its, r1, p1, _⟩ := I.tuple ha
      obtain ⟨its2, r2, p2, _⟩ := I.tuple hb
      obtain ⟨itsA, rA, pA, _⟩ := I.tuple ha2
      obtain ⟨itsB, rB, pB, _⟩ := I.tuple hb2
      have iA : IntsAre itsA.toArray.toList ns := intsAre_of rA
      have iB : IntsAre itsB.toArray.toList ms := intsAre_of rB
      cases r1 with
      | cons c1 r1 =>
        cases r1 with
        | cons c2 r1 =>
          cases r1
          cases r2 with
          | cons d1 r2 =>
            cases r2 with
            | cons d2 r2 =>
              cases r2
              obtain ⟨t1, rfl⟩ := c1
              obtain ⟨t2, rfl⟩ := d1
              obtain rfl := c2
              obtain rfl := d2
              have hu1 : X.A.in1.units < cLine := by show X.A.units + 1 < cLine; omega
              obtain ⟨as1, rd1⟩ := Dp.reads I _ _ _ dp1 (show RelV (.ref a2) (.ref a2) from rfl)
              obtain ⟨as2, rd2⟩ := Dp.reads I _ _ _ dp2 (show RelV (.ref b2) (.ref b2) from rfl)
              have hev : PyData.eqv (.tuple (ns.map PyData.int)) (.tuple (ms.map PyData.int)) = decide (ns = ms) := by simp [PyData.eqv, eqv_ints]
              have c1 : PyData.canLay0 (.tuple (ns.map PyData.int)) = true := by simp [PyData.canLay0, sh_ints]
              have c2 : PyData.canLay0 (.tuple (ms.map PyData.int)) = true := by simp [PyData.canLay0, sh_ints]
              have e1 : SeqAt.EqAt X.A.in1 s (.ref a2) (.ref b2) (decide (ns = ms)) := by
                rw [← hev]
                have hdp : min (PyData.depth (.tuple (ns.map PyData.int))) (PyData.depth (.tuple (ms.map PyData.int))) ≤ 1 := by
                  simp [PyData.depth, sh_ints]
                exact SeqAt.eqAt_reads _ _ _ _ _ _ _ _ rd1 rd2 c1 c2 (by
                  show X.A.units + 1 + min (PyData.depth (.tuple (ns.map PyData.int))) (PyData.depth (.tuple (ms.map PyData.int))) < cLine
                  omega)
              have res := Ob.RcOp.tuples_lt (A := X.A) (s := s) (e := fun k => if k = 0 then decide (i = j) else decide (ns = ms)) (r := fun k => if k = 0 then decide (i < j) else HT.lexLt ns ms) p1 p2 (by omega)
                (fun k h1 h2 => match k, h1, h2 with
                  | 0, _, _ => SeqAt.EqAt.int_int i t1 j t2
                  | 1, _, _ => e1
                  | k + 2, h, _ => absurd h (by simp))
                (fun k h1 h2 _ => match k, h1, h2 with
                  | 0, _, _ => Ob.RcOp.lt_int i j t1 t2
                  | 1, _, _ => fun prog w E Q h => HT.lt_tupInts pA pB iA iB hu1 h
                  | k + 2, h, _ => absurd h (by simp))
              refine res _ _ _ _ ⟨.bl (keyLt i ns j ms), H, I, ?_, q w _ H g Ext.refl (by simp only [Rep])⟩
              show Value.bool _ = Value.bool _
              congr 1
              simp only [keyLt]
              by_cases hij : i = j
              · by_cases hnm : ns = ms
                · subst hij hnm
                  simp [Ob.lexAt, lexLt_self]
                · simp [Ob.lexAt, hij, hnm]
              · simp [Ob.lexAt, hij]
    · cases h
  · cases h
end
end Z

set_option maxRecDepth 100000
set_option maxHeartbeats 4000000
set_option autoImplicit false
namespace Z
open PySem PySem.Spec PyProof.Rows L2

/-! ### raise -/
/-- a class of errors without own __init__ -/
structure ExcT (K : PySem.W.Frag) (mg : Str → Option Value) (c : Str) : Prop where
  ex : ∃ C, mg c = some (.ref C) ∧ PySem.W.excIn K C He.veBase "ValueError.__new__" = true ∧ PySem.W.keepIn K (.ref C) = true ∧ PySem.W.subIn K (.ref C) (.type "BaseException") = some true ∧ PySem.W.typeIn K (.ref C) = some (.type "type")
/-- c's errors are caught by 'except p' -/
structure ExcM (K : PySem.W.Frag) (mg : Str → Option Value) (c p : Str) (b : Bool) : Prop where
  ex : ∃ C P, mg c = some (.ref C) ∧ mg p = some (.ref P) ∧ PySem.W.exmOne K (.ref C) (.ref P) = some b
/-- isinstance of one of c's errors -/
structure ExcQ (K : PySem.W.Frag) (mg : Str → Option Value) (c d : Str) (b : Bool) : Prop where
  ex : ∃ C D, mg c = some (.ref C) ∧ mg d = some (.ref D) ∧ ExcC K C ∧ PySem.W.kitOne K (.ref C) (.ref D) = some b
def excCB (K : PySem.W.Frag) (D : Addr) : Bool :=
  decide (PySem.W.findIn K (.ref D) "__getattribute__" = some (some (.builtin "BaseException.__getattribute__"))) && (decide (PySem.W.findIn K (.ref D) "__getattr__" = some none) && (decide (PySem.W.subIn K (.ref D) (.type "BaseException") = some true) && (PySem.W.hasDictIn K D &&
    (decide (PySem.W.findIn K (.ref D) "__class__" = some (some (.builtin "object.__class__"))) && (decide (PySem.W.specialIn K (.builtin "object.__class__") "__get__" = some (some (.builtin "getset_descriptor.__get__"))) &&
      (decide (PySem.W.takesIn K (.builtin "object.__class__") = some true) && decide (PySem.W.mroIn K D (.type "object") = some true)))))))
theorem excCB_ok {K : PySem.W.Frag} {D : Addr} (h : excCB K D = true) : ExcC K D := by
  unfold excCB at h
  obtain ⟨h1, h⟩ := He.ba h
  obtain ⟨h2, h⟩ := He.ba h
  obtain ⟨h3, h⟩ := He.ba h
  obtain ⟨h4, h⟩ := He.ba h
  obtain ⟨h5, h⟩ := He.ba h
  obtain ⟨h6, h⟩ := He.ba h
  obtain ⟨h7, h8⟩ := He.ba h
  exact ⟨of_decide_eq_true h1, of_decide_eq_true h2, of_decide_eq_true h3, h4, of_decide_eq_true h5, of_decide_eq_true h6, of_decide_eq_true h7, of_decide_eq_true h8⟩
def excQB (K : PySem.W.Frag) (c d : Str) (b : Bool) : Bool := excCB K (He.ga K c) && decide (PySem.W.kitOne K (.ref (He.ga K c)) (.ref (He.ga K d)) = some b)
theorem excQ_of {K : PySem.W.Frag} {mg : Str → Option Value} {c d : Str} {b : Bool} (h1 : mg c = some (.ref (He.ga K c))) (h2 : mg d = some (.ref (He.ga K d))) (h : excQB K c d b = true) : ExcQ K mg c d b := by
  obtain ⟨q1, q2⟩ := He.ba h
  exact ⟨_, _, h1, h2, excCB_ok q1, of_decide_eq_true q2⟩
theorem excT_of {K : PySem.W.Frag} {mg : Str → Option Value} {c : Str} (h1 : mg c = some (.ref (He.ga K c))) (h : (He.Fa.exc c).ok K = true) : ExcT K mg c := by
  obtain ⟨q1, q2, q3, q4⟩ := He.exc_ok h
  exact ⟨_, h1, q1, q2, q3, q4⟩
theorem excM_of {K : PySem.W.Frag} {mg : Str → Option Value} {c p : Str} {b : Bool} (h1 : mg c = some (.ref (He.ga K c))) (h2 : mg p = some (.ref (He.ga K p))) (h : (He.Fa.exm c p b).ok K = true) : ExcM K mg c p b := ⟨_, _, h1, h2, He.exm_ok h⟩
def sRaise (c : Str) (p : PEF) : PSF := fun e m => bndS (p e m) e fun _ m1 => some (.exc c e m1)
section
variable {X : Cx} {W : WX} {e : Expr} {pe : PEF}
theorem ms_raise {c : Str} {p pos pos2 : Pos} (T : ExcT X.K X.mg c) (hc : X.calm = true) (tk : Takes X W) (hg : Gl X c) (he : ME X W e pe) (hs : starEach [e] X.env = (false, eval e X.env) :: starEach [] X.env := by rfl) (hdb : (c == ("__debug__" : Str)) = false := by decide) :
    MS X W (.Raise (some (.Call (.Name c p) [e] [] pos2)) none pos) (sRaise c pe) := by
  obtain ⟨C, h1, h2, h3, h4, h5⟩ := T.ex
  refine PS.imp (ps_raise hc tk (SkE.pmk_own1 PySem.F.excBase_ValueError h2 h1 h3 (raises_own h4 h5) hg he hs hdb)) fun D σ H ⟨w, m, ev', r, g, ev, h, q⟩ => ?_
  refine tM_bndS g ev h q fun d1 m1 w1 v1 H1 hh1 g1 x1 r1 ev1 q1 => ?_
  cases hh1
  exact q1 w1 σ H1 C g1 Ext.refl ev1 h1
end

/-! ### try .. except x as n: return [..] -/
def sv : D → V
  | .bl b => .bl b
  | .int i => .int i
  | .str s => .str s
  | _ => .non
def isSc : D → Bool
  | .bl _ => true
  | .int _ => true
  | .str _ => true
  | .non => true
  | _ => false
theorem sv_rep {K : PySem.W.Frag} {w : Wd} {H : Hp} : ∀ {d : D}, isSc d = true → Rep K w H d (sv d)
  | .bl _, _ => by simp only [Rep, sv]
  | .int _, _ => by simp only [Rep, sv]
  | .str _, _ => by simp only [Rep, sv]
  | .non, _ => by simp only [Rep, sv]
  | .tup _, h => nomatch h
  | .lst _, h => nomatch h
  | .ro _, h => nomatch h
  | .loc _, h => nomatch h
theorem sv_repL {K : PySem.W.Frag} {w : Wd} {H : Hp} : ∀ {l : List D}, l.all isSc = true → RepL K w H l (l.map sv)
  | [], _ => RepL.nil
  | d :: l, h => by
    rw [List.all_cons, Bool.and_eq_true] at h
    exact RepL.cons (sv_rep h.1) (sv_repL h.2)
/-- an expression of the suite whose value is known; the caught error a stands in slot i -/
abbrev tSV (i : Nat) (a : Addr) (v : V) : TE := fun σ H Q => σ[i]? = some (some (.ref a)) ∧ Q v H
abbrev tSVs (i : Nat) (a : Addr) (vs : List V) : TA := fun σ H Q => σ[i]? = some (some (.ref a)) ∧ Q vs H
abbrev tSR (i : Nat) (a : Addr) (vs : List V) : TS := fun D σ H => σ[i]? = some (some (.ref a)) ∧ ∀ p, H p = none → D.rt (.ref p) (upd H p (.lst vs))
section
variable {X : Cx} {i : Nat} {a : Addr}
theorem su_str {x : Str} {j} {pos : Pos} : PE X (.Constant (.str x) j pos) (tSV i a (.str x)) := PE.imp pe_str fun _ _ _ h => h.2
theorem su_bl {x : Bool} {j} {pos : Pos} : PE X (.Constant (.bool x) j pos) (tSV i a (.bl x)) := PE.imp pe_bl fun _ _ _ h => h.2
theorem su_isE {pn : List (Addr × Obj)} {oe : Obj} {c d n : Str} {b : Bool} {p1 p2 p3 pos : Pos} (Q : ExcQ X.K X.mg c d b) {C : Addr} (hC : X.mg c = some (.ref C)) (hz : Zc (.ref C) none oe) (hf : ∃ vs, oe.data = .fields vs)
    (hN : X.N[i]? = some n) (hg : Gl X "isinstance") (hm : X.mg "isinstance" = none) (hgd : Gl X d) (hv : Vis X.env.scope n := by first | exact Or.inl rfl | exact Or.inr (Or.inl rfl) | exact Or.inr (Or.inr rfl)) (hd : (n == ("__debug__" : Str)) = false := by decide)
    (hcd : (n == ("__classdict__" : Str)) = false := by decide) (hdb : (d == ("__debug__" : Str)) = false := by decide)
    (he : starEach [.Name n p1, .Name d p2] X.env = (false, eval (.Name n p1) X.env) :: starEach [.Name d p2] X.env := by rfl) (hpl : (backTo pos (starEach [.Name d p2] X.env)).any (·.1) = false := by rfl) :
    PE (X.suite a ((a, oe) :: pn)) (.Call (.Name "isinstance" p3) [.Name n p1, .Name d p2] [] pos) (tSV i a (.bl b)) := by
  obtain ⟨C', D, q1, q2, q3, q4⟩ := Q.ex
  rw [hC] at q1
  cases q1
  refine PE.imp (pe_callB (X := X.suite a ((a, oe) :: pn)) (call_isE (X := X) (pn := pn) q3 hz hf) hg hm PyProof.Rows.boot_isinstance (pa_cons (X := X.suite a ((a, oe) :: pn)) (pe_var (X := X.suite a ((a, oe) :: pn)) hN hv hd hcd) (pa_cons (X := X.suite a ((a, oe) :: pn)) (pe_glob (X := X.suite a ((a, oe) :: pn)) (v := .ref D) hgd q2 rfl hdb) pa_nil) he) (by decide) (by decide) he hpl) fun σ H Q h => ?_
  exact ⟨.ref a, h.1, .ref D, .ref D, b, rfl, fun u hu => hu, q4, h.2⟩
theorem su_nil : PA X [] (tSVs i a []) := ⟨fun pos pins s σ H Q I h => pa_nil.run pos pins s σ H Q I h.2⟩
theorem su_cons {e : Expr} {es : List Expr} {v : V} {vs : List V} (ha : PE X e (tSV i a v)) (hr : PA X es (tSVs i a vs)) (hs : starEach (e :: es) X.env = (false, eval e X.env) :: starEach es X.env := by rfl) : PA X (e :: es) (tSVs i a (v :: vs)) :=
  PA.imp (pa_cons ha hr hs) fun σ H Q h => ⟨h.1, h.1, h.2⟩
theorem su_ret {es : List Expr} {vs : List V} {pos pos' : Pos} (h : PA X es (tSVs i a vs)) (hl : vs.length ≤ 100) : PSs X [.Return (some (.List es pos)) pos'] (tSR i a vs) :=
  PSs.imp (pss_one (ps_ret (pe_lst h))) fun D σ H q => ⟨q.1, Nat.le_trans hl (by rw [← SL_eq]; decide), q.2⟩
end
/-- what each class's error is answered with -/
def Rows (X : Cx) (P : Str) (i : Nat) (st : List Stmt) : List (Str × List D) → Prop
  | [] => True
  | (c, l) :: r => (l.all isSc = true ∧ ExcM X.K X.mg c P true ∧ ∀ (C a : Addr) (oe : Obj) (pn : List (Addr × Obj)), X.mg c = some (.ref C) → Zc (.ref C) none oe → (∃ vs, oe.data = .fields vs) → PSs (X.suite a ((a, oe) :: pn)) st (tSR i a (l.map sv))) ∧ Rows X P i st r
theorem Rows.of {X : Cx} {P : Str} {i : Nat} {st : List Stmt} {c : Str} {l : List D} : ∀ {t : List (Str × List D)}, Rows X P i st t → t.lookup c = some l →
    l.all isSc = true ∧ ExcM X.K X.mg c P true ∧ ∀ (C a : Addr) (oe : Obj) (pn : List (Addr × Obj)), X.mg c = some (.ref C) → Zc (.ref C) none oe → (∃ vs, oe.data = .fields vs) → PSs (X.suite a ((a, oe) :: pn)) st (tSR i a (l.map sv))
  | [], _, h => by cases h
  | (c', l') :: r, h, e => by
    rw [List.lookup_cons] at e
    split at e
    · rename_i hc
      cases e
      have : c = c' := eq_of_beq hc
      subst this
      exact h.1
    · exact Rows.of h.2 e
def sTry (t : List (Str × List D)) (p : PSF) : PSF := fun e m => match p e m with
  | some (.exc c e' m') => match t.lookup c with
    | some l => some (.rt (.lst l) m')
    | none => none
  | r => r
section
variable {X : Cx} {W : WX} {p : PSF}
theorem ms_try {i : Nat} {x n : Str} {body suite : List Stmt} {b₀ : Stmt} {np pos pos' : Pos} {t : List (Str × List D)} (hs : X.stack = X.env :: X.outer) (hf : X.env.frame = some X.env.locals) (hN : X.N.Nodup) (hi : X.N[i]? = some n) (hln : X.env.kindOf n = some .local)
    (hgx : Gl X x) (tk : Takes X W) (hx : ∃ P, X.mg x = some (.ref P))
    (hb : ∀ (W' : WX) (pn : List (Addr × Obj)) (xe : Value → Shared → Prop), Takes (X.tr pn xe) W' → PassesOwn (model X.prog X.w) X.A X.env xe → MSs (X.tr pn xe) W' body p)
    (hr : Rows X x i (b₀ :: suite) t) (hdb : (x == ("__debug__" : Str)) = false := by decide) :
    MS X W (.Try body [.ExceptHandler (some (.Name x np)) (some n) (b₀ :: suite) pos'] [] [] pos) (sTry t p) := by
  obtain ⟨P, hP⟩ := hx
  refine PS.imp (ps_try_as (tb := fun W' => tS X W' p)
    (ts := fun a cls d D σ H => ∃ (C : Addr) (c : Str) (l : List Z.D) (σ0 : L2.St), cls = .ref C ∧ d = none ∧ X.mg c = some (.ref C) ∧ t.lookup c = some l ∧ σ = σ0.set i (some (.ref a)) ∧ ∀ q, H q = none → D.rt (.ref q) (upd H q (.lst (l.map sv))))
    hs hf hN hi hln ⟨hgx, hdb, .inl hP⟩ tk (fun W' pn xe h1 h2 => hb W' pn xe h1 h2) fun a oe cls d pn hz hfl => ⟨fun pins s σ H Q I h => ?_⟩) fun D σ H ⟨w, m, ev', r, g, ev, h, q⟩ => ?_
  · obtain ⟨C, c, l, σ0, rfl, rfl, hc, hl, rfl, q⟩ := h
    obtain ⟨_, _, h3⟩ := hr.of hl
    refine (h3 C a oe pn hc hz hfl).run pins s _ H Q I ⟨?_, q⟩
    have hlen : (σ0.set i (some (V.ref a))).length = X.N.length := I.len
    rw [List.length_set] at hlen
    exact List.getElem?_set_self (by rw [hlen]; exact (List.getElem?_eq_some_iff.mp hi).1)
  · unfold sTry at h
    show tS X (wAs X.K (.ref P) i _ W D) p D σ H
    cases hp : p ev' m with
    | none => rw [hp] at h; cases h
    | some u =>
      rw [hp] at h
      cases u with
      | nx e1 m1 => cases h; exact ⟨w, m, ev', _, g, ev, hp, q⟩
      | rt d m1 => cases h; exact ⟨w, m, ev', _, g, ev, hp, q⟩
      | bk e1 m1 => cases h; exact ⟨w, m, ev', _, g, ev, hp, q⟩
      | ct e1 m1 => cases h; exact ⟨w, m, ev', _, g, ev, hp, q⟩
      | exc c e1 m1 =>
        refine ⟨w, m, ev', _, g, ev, hp, fun w' σ' H' C g' x' ev2 hc => ?_⟩
        simp only at h
        split at h
        · rename_i l hl
          cases h
          obtain ⟨h1, h2, _⟩ := hr.of hl
          obtain ⟨C', P', z1, z2, z3⟩ := h2.ex
          rw [hc] at z1; cases z1
          rw [hP] at z2; cases z2
          refine ⟨true, z3, fun _ a na => ⟨C, c, l, σ', rfl, rfl, hc, hl, rfl, fun q' hq => ?_⟩, fun z => nomatch z⟩
          exact q (w'.fzn q') _ _ (g'.newF hq) (x'.trans ((Ext.new g' hq).trans Ext.fzn)) (new_lst g' hq (sv_repL h1))
        · cases h
end
end Z

set_option maxRecDepth 100000
set_option maxHeartbeats 4000000
set_option autoImplicit false
namespace Z
open PySem PySem.Spec PyProof.Rows L2

/-! ### methods of texts -/
def strsOf : List D → Option (List Str)
  | [] => some []
  | .str s :: l => match strsOf l with
    | some r => some (s :: r)
    | none => none
  | _ => none
theorem strsOf_eq : ∀ {l : List D} {ys : List Str}, strsOf l = some ys → l = ys.map D.str
  | [], _, h => by simp only [strsOf] at h; cases h; rfl
  | d :: l, ys, h => by
    cases d with
    | str s =>
      simp only [strsOf] at h
      split at h
      · rename_i r hr
        cases h
        rw [List.map_cons, ← strsOf_eq hr]
      · cases h
    | _ => simp only [strsOf] at h; cases h
theorem strsOf_map : ∀ ys : List Str, strsOf (ys.map D.str) = some ys
  | [] => rfl
  | y :: r => by simp only [List.map_cons, strsOf, strsOf_map r]
theorem repL_strs {K : PySem.W.Frag} {w : Wd} {H : Hp} : ∀ {ys : List Str} {xs : List V}, RepL K w H (ys.map D.str) xs → xs = ys.map V.str
  | [], _, h => RepL.nil_iff.mp h
  | n :: r, _, h => by
    obtain ⟨v, t, rfl, h1, h2⟩ := RepL.cons_iff.mp h
    rw [List.map_cons, ← repL_strs h2, rep_str h1]
theorem repL_of_strs {K : PySem.W.Frag} {w : Wd} {H : Hp} : ∀ {ys : List Str}, RepL K w H (ys.map D.str) (ys.map V.str)
  | [] => RepL.nil
  | n :: r => RepL.cons (by simp only [Rep]) repL_of_strs
def pM1 (o : VK2) (p q : PEF) : PEF := fun e m => bnd (p e m) fun d1 m1 => match d1 with
  | .str a => bnd (q e m1) fun d2 m2 => lift1 (o (.str a) d2 m2) m2
  | _ => none
def oPart : VK2 := fun a b _ => match a, b with
  | .str x, .str y => if y.length ≠ 0 ∧ x.length ≤ SL then some (.tup [.str (Txt.partition x y).1, .str (Txt.partition x y).2.1, .str (Txt.partition x y).2.2]) else none
  | _, _ => none
def oSplit : VK2 := fun a b _ => match a, b with
  | .str x, .str y => if y.length ≠ 0 ∧ x.length + 2 ≤ SL then some (.lst ((Txt.split x y).map D.str)) else none
  | _, _ => none
def oSIdx : VK2 := fun a b _ => match a, b with
  | .str x, .str y => match Builtin.Str.occurrences x y 0 x.length 1 with
    | i :: _ => some (.int (i : Nat))
    | [] => none
  | _, _ => none
def asLT (m : Mem) (d : D) : Option (List D) := match d with
  | .tup l => some l
  | d => asL m d
def oJoin : VK2 := fun a b m => match a with
  | .str x => match asLT m b with
    | some l => match strsOf l with
      | some ys => if (ys.map (·.length)).sum + ys.length * x.length ≤ SL then some (.str (Txt.join x ys)) else none
      | none => none
    | none => none
  | _ => none
section
variable {X : Cx} {W : WX} {a b : Expr} {p q : PEF} {pos apos : Pos}
theorem m1_of {o : VK2} {r : V → List V → Hp → VK → Prop}
    (hr : ∀ w H m x d2 v2 u Q, Good X.K w H m → Rep X.K w H d2 v2 → o (.str x) d2 m = some u → (∀ w' v H', Good X.K w' H' m → Ext X.K w H w' H' → Rep X.K w' H' u v → Q v H') → r (.str x) [v2] H Q)
    {σ : L2.St} {H : Hp} {Q : VK} (h : tM X W (pM1 o p q) σ H Q) : tM1 r (tM X W p) (tM X W q) σ H Q := by
  obtain ⟨w, m, e, u, g, ev, h, qq⟩ := h
  refine tM_bnd g ev h qq fun d1 m1 w1 v1 H1 h1 g1 x1 r1 ev1 q1 => ?_
  cases d1 with
  | str s =>
    obtain rfl := rep_str r1
    refine ⟨⟨s, rfl⟩, tM_bnd g1 ev1 h1 q1 fun d2 m2 w2 v2 H2 h2 g2 x2 r2 ev2 q2 => ?_⟩
    obtain ⟨d, hd, rfl⟩ := lift1_some h2
    exact hr w2 H2 m2 s d2 v2 d Q g2 r2 hd q2
  | _ => cases h1
theorem me_partition (ha : ME X W a p) (hb : ME X W b q) (hs : starEach [b] X.env = [(false, eval b X.env)] := by rfl) (hbase : attributeBase a "partition" X.env (eval a X.env) = eval a X.env := by rfl) (hline : (apos.endLine == pos.line) = true := by rfl) :
    ME X W (.Call (.Attribute a "partition" apos) [b] [] pos) (pM1 oPart p q) := by
  refine PE.imp (pe_partition ha hb hs hbase hline) fun _ _ _ h => m1_of (fun w H m x d2 v2 u Q g r2 h q => ?_) h
  unfold oPart at h
  split at h
  · rename_i x' y e
    cases e
    obtain rfl := rep_str r2
    split at h
    · rename_i hz
      cases h
      refine ⟨_, _, rfl, rfl, by simpa using hz.1, by rw [← SL_eq]; exact hz.2, fun p hp => q w _ _ (g.new hp) (Ext.new g hp) (new_tup g hp ?_)⟩
      exact RepL.cons (by simp only [Rep]) (RepL.cons (by simp only [Rep]) (RepL.cons (by simp only [Rep]) RepL.nil))
    · cases h
  · cases h
theorem me_split (ha : ME X W a p) (hb : ME X W b q) (hs : starEach [b] X.env = [(false, eval b X.env)] := by rfl) (hbase : attributeBase a "split" X.env (eval a X.env) = eval a X.env := by rfl) (hline : (apos.endLine == pos.line) = true := by rfl) :
    ME X W (.Call (.Attribute a "split" apos) [b] [] pos) (pM1 oSplit p q) := by
  refine PE.imp (pe_split ha hb hs hbase hline) fun _ _ _ h => m1_of (fun w H m x d2 v2 u Q g r2 h q => ?_) h
  unfold oSplit at h
  split at h
  · rename_i x' y e
    cases e
    obtain rfl := rep_str r2
    split at h
    · rename_i hz
      cases h
      exact ⟨_, _, rfl, rfl, by simpa using hz.1, by rw [← SL_eq]; exact hz.2, fun p hp => q (w.fzn p) _ _ (g.newF hp) ((Ext.new g hp).trans Ext.fzn) (new_lst g hp repL_of_strs)⟩
    · cases h
  · cases h
theorem me_sindex (ha : ME X W a p) (hb : ME X W b q) (hs : starEach [b] X.env = [(false, eval b X.env)] := by rfl) (hbase : attributeBase a "index" X.env (eval a X.env) = eval a X.env := by rfl) (hline : (apos.endLine == pos.line) = true := by rfl) :
    ME X W (.Call (.Attribute a "index" apos) [b] [] pos) (pM1 oSIdx p q) := by
  refine PE.imp (pe_m1 PySem.F.slot_str_index PySem.F.type_str_index mt_sindex ha hb hs hbase hline) fun _ _ _ h => m1_of (fun w H m x d2 v2 u Q g r2 h q => ?_) h
  unfold oSIdx at h
  split at h
  · rename_i x' y e
    cases e
    obtain rfl := rep_str r2
    split at h
    · rename_i i rest hz
      cases h
      exact ⟨_, _, _, _, rfl, rfl, hz, q w _ H g Ext.refl (by simp only [Rep])⟩
    · cases h
  · cases h
theorem me_join (ha : ME X W a p) (hb : ME X W b q) (hs : starEach [b] X.env = [(false, eval b X.env)] := by rfl) (hbase : attributeBase a "join" X.env (eval a X.env) = eval a X.env := by rfl) (hline : (apos.endLine == pos.line) = true := by rfl) :
    ME X W (.Call (.Attribute a "join" apos) [b] [] pos) (pM1 oJoin p q) := by
  refine PE.imp (pe_join ha hb hs hbase hline) fun _ _ _ h => m1_of (fun w H m x d2 v2 u Q g r2 h q => ?_) h
  unfold oJoin at h
  dsimp only at h
  · split at h
    · rename_i l hl
      split at h
      · rename_i ys hys
        split at h
        · rename_i hz
          cases h
          have hz' : (ys.map (·.length)).sum + ys.length * x.length ≤ 16777216 := hz
          have key : ∃ p', v2 = .ref p' ∧ (SqL X.K H p' (ys.map V.str) ∨ SqT X.K H p' (ys.map V.str)) := by
            cases d2 with
            | tup l' =>
              cases hl
              obtain ⟨p', xs, rfl, h1, h2⟩ := asT_rep r2 rfl
              rw [strsOf_eq hys] at h2
              rw [repL_strs h2] at h1
              exact ⟨p', rfl, .inr h1⟩
            | non => cases hl
            | bl _ => cases hl
            | int _ => cases hl
            | str _ => cases hl
            | lst l' =>
              obtain ⟨p', xs, rfl, h1, h2⟩ := asL_rep g r2 hl
              rw [strsOf_eq hys] at h2
              rw [repL_strs h2] at h1
              exact ⟨p', rfl, .inl h1⟩
            | ro l' =>
              obtain ⟨p', xs, rfl, h1, h2⟩ := asL_rep g r2 hl
              rw [strsOf_eq hys] at h2
              rw [repL_strs h2] at h1
              exact ⟨p', rfl, .inl h1⟩
            | loc i =>
              obtain ⟨p', xs, rfl, h1, h2⟩ := asL_rep g r2 hl
              rw [strsOf_eq hys] at h2
              rw [repL_strs h2] at h1
              exact ⟨p', rfl, .inl h1⟩
          obtain ⟨p', rfl, h3⟩ := key
          exact ⟨_, _, ys, rfl, rfl, h3, hz', q w _ H g Ext.refl (by simp only [Rep])⟩
        · cases h
      · cases h
    · cases h
end
/-! int(text), str(text) -/
def oIntS (ds : List D) (_ : Mem) : Option D := match ds with
  | [.str x] => if x.length ≤ 640 then (match PySem.intText? x with
    | some n => some (.int n)
    | none => none) else none
  | _ => none
def oStrS (ds : List D) (m : Mem) : Option D := match ds with
  | [.str x] => some (.str x)
  | ds => oStr ds m
theorem cr_oIntS {X : Cx} : CallR X (.type "int") (rcOf X oIntS) := by
  intro pins s σ H xs us Q I r h
  obtain ⟨w, m, ds, d, g, hd, h, q⟩ := h
  unfold oIntS at h
  split at h
  · rename_i x
    split at h
    · rename_i hl
      split at h
      · rename_i n hn
        cases h
        obtain ⟨v, rfl, rv⟩ := repL1 hd
        obtain rfl := rep_str rv
        exact call_int_str pins s σ H _ us Q I r ⟨_, _, rfl, hn, hl, q w _ H g Ext.refl (by simp only [Rep])⟩
      · cases h
    · cases h
  · cases h
theorem cr_oStrS {X : Cx} : CallR X (.type "str") (rcOf X oStrS) := by
  intro pins s σ H xs us Q I r h
  obtain ⟨w, m, ds, d, g, hd, h, q⟩ := h
  unfold oStrS at h
  split at h
  · rename_i x
    cases h
    obtain ⟨v, rfl, rv⟩ := repL1 hd
    obtain rfl := rep_str rv
    exact SkE.call_str_str pins s σ H _ us Q I r ⟨_, rfl, q w _ H g Ext.refl (by simp only [Rep])⟩
  · exact cr_oStr pins s σ H xs us Q I r ⟨w, m, ds, d, g, hd, h, q⟩
end Z

set_option maxRecDepth 100000
set_option maxHeartbeats 4000000
set_option autoImplicit false
namespace Z
open PySem PySem.Spec PyProof.Rows L2
open NumText
/-! ### texts by their signs -/
def sO (l : List Nat) : Str := ⟨l.toArray⟩
theorem sO_len (l : List Nat) : (sO l).length = l.length := by show l.toArray.size = _; simp
theorem sO_tl (z : Str) : sO z.cps.toList = z := by cases z; rfl
theorem tl_sO (l : List Nat) : (sO l).cps.toList = l := rfl
theorem sO_inj {a b : List Nat} : sO a = sO b ↔ a = b := ⟨fun h => by have := congrArg (fun z : Str => z.cps.toList) h; exact this, fun h => by rw [h]⟩
theorem exSO (z : Str) : ∃ l, z = sO l := ⟨_, (sO_tl z).symm⟩
theorem sO_app (a b : List Nat) : sO a ++ sO b = sO (a ++ b) := by
  have h := TL.tl_append (sO a) (sO b)
  rw [← sO_tl (sO a ++ sO b)]
  exact congrArg sO h
theorem ofS (s : String) : Str.ofString s = sO (s.toList.map Char.toNat) := by
  rw [← sO_tl (Str.ofString s)]
  exact congrArg sO (TL.tl_ofString s)
theorem cut_take (l : List Nat) (k : Nat) : cutS (sO l) none (some (k : Int)) = sO (l.take k) := by
  unfold cutS
  rw [HT.sIx_none, HT.sIx_nat, sO_len, tl_sO, List.drop_zero, Nat.sub_zero]
  refine congrArg (fun z : List Nat => (⟨z.toArray⟩ : Str)) ?_
  by_cases h : k ≤ l.length
  · rw [Nat.min_eq_left h]
  · rw [Nat.min_eq_right (by omega), List.take_length, List.take_of_length_le (by omega)]
theorem cut_drop (l : List Nat) (k : Nat) : cutS (sO l) (some (k : Int)) none = sO (l.drop k) := by
  unfold cutS
  rw [HT.sIx_none, HT.sIx_nat, sO_len, tl_sO]
  refine congrArg (fun z : List Nat => (⟨z.toArray⟩ : Str)) ?_
  by_cases h : k ≤ l.length
  · rw [Nat.min_eq_left h, List.take_of_length_le (by rw [List.length_drop]; exact Nat.le_refl _)]
  · rw [Nat.min_eq_right (by omega), List.drop_of_length_le (Nat.le_refl _), List.drop_of_length_le (by omega), List.take_nil]

/-! ### numbers as they are written -/
theorem num_head : ∀ n : Nat, n ≠ 0 → ∃ c r, TL.numL n = c :: r ∧ c ≠ 48 := by
  intro n
  induction n using Nat.strongRecOn with
  | _ n ih =>
    intro h
    by_cases h9 : n < 10
    · exact ⟨_, _, TL.numL_lt h9, by omega⟩
    · obtain ⟨c, r, e, hc⟩ := ih (n / 10) (by omega) (by omega)
      exact ⟨c, r ++ [48 + n % 10], by rw [TL.numL_step (by omega), e]; rfl, hc⟩
/-- the signs of a number without needless zeros -/
def canB (l : List Nat) : Prop := l ≠ [] ∧ AllDigits l ∧ (l.head? = some 48 → l = [48])
theorem canB_num (n : Nat) : canB (TL.numL n) := by
  refine ⟨TL.numL_ne n, TL.numL_digits n, fun h => ?_⟩
  by_cases h0 : n = 0
  · subst h0; exact TL.numL_lt (by decide)
  · obtain ⟨c, r, e, hc⟩ := num_head n h0
    rw [e] at h
    exact absurd (by simpa using h) hc
theorem num_val {l : List Nat} (h1 : l ≠ []) (hd : AllDigits l) (h2 : l.head? = some 48 → l = [48]) : TL.numL (digitsVal l) = l := by
  generalize hn : l.length = n
  induction n generalizing l with
  | zero => exact absurd (List.eq_nil_of_length_eq_zero hn) h1
  | succ n ih =>
    rcases List.eq_nil_or_concat l with e | ⟨l', c, e⟩
    · exact absurd e h1
    · rw [List.concat_eq_append] at e
      subst e
      have hc : 48 ≤ c ∧ c ≤ 57 := hd c (by simp)
      rw [digitsVal_snoc]
      by_cases h0 : l' = []
      · subst h0
        show TL.numL (0 * 10 + (c - 48)) = [c]
        rw [Nat.zero_mul, Nat.zero_add, TL.numL_lt (by omega)]
        congr 1
        omega
      · have hh : (l' ++ [c]).head? = l'.head? := by cases l' with
          | nil => exact absurd rfl h0
          | cons a b => rfl
        have h3 : l'.head? ≠ some 48 := fun e => by
          have := h2 (by rw [hh]; exact e)
          have := congrArg List.length this
          cases l' with
          | nil => exact h0 rfl
          | cons a b => simp at this
        have ih' := ih (l := l') h0 (fun x hx => hd x (by simp [hx])) (fun e => absurd e h3) (by simpa using hn)
        have hv : digitsVal l' ≠ 0 := fun e => by
          rw [e, TL.numL_lt (by decide)] at ih'
          exact h3 (by rw [← ih']; rfl)
        rw [TL.numL_step (by omega), show (digitsVal l' * 10 + (c - 48)) / 10 = digitsVal l' by omega, ih']
        congr 2
        omega
theorem num_val_iff {l : List Nat} (h1 : l ≠ []) (hd : AllDigits l) : TL.numL (digitsVal l) = l ↔ (l.head? = some 48 → l = [48]) :=
  ⟨fun h => by rw [← h]; exact (canB_num _).2.2, num_val h1 hd⟩
/-- the signs of an integer -/
def intL (i : Int) : List Nat := if i < 0 then 45 :: TL.numL i.natAbs else TL.numL i.natAbs
theorem str_int (i : Int) : Str.ofString (toString i) = sO (intL i) := by
  unfold intL
  by_cases h : i < 0
  · rw [if_pos h, ofS, toString_neg h]
    refine congrArg sO ?_
    have e : (0 - i : Int) = ((i.natAbs : Nat) : Int) := by omega
    have h2 := TL.tl_num i.natAbs
    rw [e, String.toList_append, List.map_append]
    rw [TL.tl_ofString] at h2
    rw [h2]
    rfl
  · rw [if_neg h]
    have e : i = ((i.natAbs : Nat) : Int) := by omega
    have h2 := TL.tl_num i.natAbs
    rw [← e] at h2
    rw [← sO_tl (Str.ofString (toString i))]
    exact congrArg sO h2
theorem val_lt : ∀ {l : List Nat}, AllDigits l → digitsVal l < 10 ^ l.length := by
  intro l
  generalize hn : l.length = n
  induction n generalizing l with
  | zero => intro _; rw [List.eq_nil_of_length_eq_zero hn]; decide
  | succ n ih =>
    intro hd
    rcases List.eq_nil_or_concat l with e | ⟨l', c, e⟩
    · subst e; cases hn
    · rw [List.concat_eq_append] at e
      subst e
      have hc : 48 ≤ c ∧ c ≤ 57 := hd c (by simp)
      have := ih (l := l') (by simpa using hn) (fun x hx => hd x (by simp [hx]))
      rw [digitsVal_snoc, Nat.pow_succ]
      omega
/-- a text as an integer of at most 60 digits -/
def wOk (b : List Nat) : Prop := canB b ∧ b.length ≤ 60
open Classical in
noncomputable def wholeL (l : List Nat) : Option Int := if l.head? = some 45 then (if wOk l.tail ∧ l.tail ≠ [48] then some (-((digitsVal l.tail : Nat) : Int)) else none) else if wOk l then some ((digitsVal l : Nat) : Int) else none
theorem whole_neg {b : List Nat} (h : wOk b) (h2 : b ≠ [48]) : wholeL (45 :: b) = some (-((digitsVal b : Nat) : Int)) := by
  unfold wholeL
  rw [if_pos (show (45 :: b).head? = some 45 from rfl)]
  exact if_pos ⟨h, h2⟩
theorem whole_pos {b : List Nat} (h : wOk b) : wholeL b = some ((digitsVal b : Nat) : Int) := by
  unfold wholeL
  rw [if_neg, if_pos h]
  intro e
  cases b with
  | nil => cases e
  | cons c r =>
    have := h.1.2.1.head
    have : c = 45 := by simpa using e
    omega
theorem whole_str {l : List Nat} {i : Int} (h : wholeL l = some i) : intL i = l := by
  unfold wholeL at h
  split at h
  · rename_i hh
    split at h
    · rename_i ho
      cases h
      obtain ⟨⟨⟨h1, h2, h3⟩, h4⟩, h5⟩ := ho
      have hv := num_val h1 h2 h3
      have h0 : digitsVal l.tail ≠ 0 := fun e => by
        rw [e, TL.numL_lt (by decide)] at hv
        exact h5 hv.symm
      have e : (-((digitsVal l.tail : Nat) : Int)).natAbs = digitsVal l.tail := by omega
      unfold intL
      rw [if_pos (by omega), e, hv]
      cases l with
      | nil => cases hh
      | cons a b =>
        have : a = 45 := by simpa using hh
        rw [this]; rfl
    · cases h
  · split at h
    · rename_i ho
      cases h
      obtain ⟨⟨h1, h2, h3⟩, h4⟩ := ho
      unfold intL
      rw [if_neg (by omega), Int.natAbs_natCast]
      exact num_val h1 h2 h3
    · cases h
theorem whole_lt {l : List Nat} {i : Int} (h : wholeL l = some i) : i.natAbs < 10 ^ 60 := by
  unfold wholeL at h
  split at h
  · split at h
    · rename_i ho
      cases h
      have := val_lt ho.1.1.2.1
      have := Nat.pow_le_pow_right (n := 10) (by decide) ho.1.2
      omega
    · cases h
  · split at h
    · rename_i ho
      cases h
      have := val_lt ho.1.2.1
      have := Nat.pow_le_pow_right (n := 10) (by decide) ho.2
      omega
    · cases h
/-- where a sign is none -/
theorem whole_no {l : List Nat} {c : Nat} (hc : c ∈ l) (h1 : c ≠ 45) (h2 : ¬ (48 ≤ c ∧ c ≤ 57)) : wholeL l = none := by
  unfold wholeL
  split
  · rename_i hh
    refine if_neg fun h => ?_
    have : c ∈ l.tail := by
      cases l with
      | nil => cases hc
      | cons a b =>
        have : a = 45 := by simpa using hh
        rcases List.mem_cons.1 hc with e | e
        · exact absurd (e.trans this) h1
        · exact e
    exact h2 (h.1.1.2.1 c this)
  · exact if_neg fun h => h2 (h.1.2.1 c hc)
/-- a text cut at a sign -/
theorem parts_of (s : Nat) : ∀ l : List Nat, ∃ ps : List (List Nat), ps ≠ [] ∧ (∀ p ∈ ps, s ∉ p) ∧ l = TL.joinL [s] ps
  | [] => ⟨[[]], by simp, by simp, rfl⟩
  | c :: l => by
    obtain ⟨ps, h1, h2, h3⟩ := parts_of s l
    by_cases h : c = s
    · subst h
      cases ps with
      | nil => exact absurd rfl h1
      | cons p r => exact ⟨[] :: p :: r, by simp, fun q hq => by rcases List.mem_cons.1 hq with e | e; · rw [e]; simp
                                                                 · exact h2 q e, by rw [h3]; rfl⟩
    · cases ps with
      | nil => exact absurd rfl h1
      | cons p r =>
        refine ⟨(c :: p) :: r, by simp, fun q hq => ?_, ?_⟩
        · rcases List.mem_cons.1 hq with e | e
          · rw [e]
            intro hm
            rcases List.mem_cons.1 hm with e | e
            · exact h e.symm
            · exact h2 p (List.mem_cons_self ..) e
          · exact h2 q (List.mem_cons_of_mem _ e)
        · rw [h3]
          cases r with
          | nil => rfl
          | cons q r => rfl
theorem joinO (y : List Nat) (ps : List (List Nat)) : Txt.join (sO y) (ps.map sO) = sO (TL.joinL y ps) := by
  rw [TL.join_eq, ← sO_tl (Str.join _ _)]
  refine congrArg sO ?_
  have := TL.tl_join (sO y) (ps.map sO)
  rw [List.map_map] at this
  rw [show (TL.tl ∘ sO) = id from funext fun l => rfl, List.map_id] at this
  exact this
theorem splitO {s : Nat} (hs : s < 256) {ps : List (List Nat)} (h1 : ps ≠ []) (h2 : ∀ p ∈ ps, s ∉ p) : Txt.split (sO (TL.joinL [s] ps)) (sO [s]) = ps.map sO := by
  rw [← joinO]
  refine TL.split_join (y := sO [s]) (s := s) (S := []) rfl (by simp [sO, hs]) (by simpa using h1) fun p hp => ?_
  obtain ⟨q, hq, rfl⟩ := List.mem_map.1 hp
  exact h2 q hq
theorem partO {s : Nat} {a b : List Nat} (h : s ∉ a) : Txt.partition (sO (a ++ s :: b)) (sO [s]) = (sO a, sO [s], sO b) := by
  have := TL.partition_app (y := sO [s]) (s := s) (S := []) rfl (a := sO a) (b := sO b) h
  rw [sO_app, sO_app] at this
  rw [← this]
  simp
theorem partO0 {s : Nat} {a : List Nat} (h : s ∉ a) : Txt.partition (sO a) (sO [s]) = (sO a, sO [], sO []) :=
  TL.partition_none (y := sO [s]) (s := s) (S := []) rfl (a := sO a) h
end Z

set_option maxRecDepth 100000
set_option maxHeartbeats 4000000
set_option autoImplicit false
namespace Z
open PySem PySem.Spec PyProof.Rows L2

/-! ### texts exchanged: a token must be out, and behind a parameter one is -/
abbrev MET (X : Cx) (W : WX) (e : Expr) (p : PEF) : Prop := PET X e (tM X W p)
def pRepl (y z : Str) (p : PEF) : PEF := fun e m => bnd (p e m) fun d m1 => match d with
  | .str x => if x.length + (x.length + 1) * z.length ≤ 16777216 then some (.ok (.str (Txt.replace x y z)) m1) else none
  | _ => none
section
variable {X : Cx} {W : WX} {a b : Expr} {p q : PEF}
theorem PETimp {e : Expr} {t t' : TE} (h : PET X e t) (i : ∀ σ H Q, t' σ H Q → t σ H Q) : PET X e t' := fun pins s σ H Q h0 I r => h pins s σ H Q h0 I (i _ _ _ r)
theorem repl_of {y z : Str} {σ : L2.St} {H : Hp} {Q : VK} (h : tM X W (pRepl y z p) σ H Q) : CwR.tReplC (tM X W p) y z σ H Q := by
  obtain ⟨w, m, e, u, g, ev, h, qq⟩ := h
  refine tM_bnd g ev h qq fun d1 m1 w1 v1 H1 h1 g1 x1 r1 ev1 q1 => ?_
  cases d1 with
  | str s =>
    obtain rfl := rep_str r1
    simp only at h1
    split at h1
    · rename_i hb
      cases h1
      exact ⟨s, rfl, hb, q1.now g1 (by simp only [Rep])⟩
    · cases h1
  | _ => cases h1
theorem met_repl1 {y z : Str} {j k : Nat} {c0 c1 apos pos : Pos} (ha : ME X W a p) (hyz : (y == z) = false := by decide)
    (h1 : starEach [.Constant (.str y) j c0, .Constant (.str z) k c1] X.env = [(false, eval (.Constant (.str y) j c0) X.env), (false, eval (.Constant (.str z) k c1) X.env)] := by rfl)
    (h2 : attributeBase a "replace" X.env (eval a X.env) = eval a X.env := by rfl) (h3 : (apos.endLine == pos.line) = true := by rfl) :
    MET X W (.Call (.Attribute a "replace" apos) [.Constant (.str y) j c0, .Constant (.str z) k c1] [] pos) (pRepl y z p) := PETimp (CwR.pet_replC ha hyz h1 h2 h3) fun _ _ _ h => repl_of h
theorem met_repl2 {y z : Str} {j k : Nat} {c0 c1 apos pos : Pos} (ha : MET X W a p) (hyz : (y == z) = false := by decide)
    (h1 : starEach [.Constant (.str y) j c0, .Constant (.str z) k c1] X.env = [(false, eval (.Constant (.str y) j c0) X.env), (false, eval (.Constant (.str z) k c1) X.env)] := by rfl)
    (h2 : attributeBase a "replace" X.env (eval a X.env) = eval a X.env := by rfl) (h3 : (apos.endLine == pos.line) = true := by rfl) :
    MET X W (.Call (.Attribute a "replace" apos) [.Constant (.str y) j c0, .Constant (.str z) k c1] [] pos) (pRepl y z p) := PETimp (CwR.pet_replT ha hyz h1 h2 h3) fun _ _ _ h => repl_of h
/-- a method of one argument whose text wants a token -/
theorem pet_meth1 {id : String} {name : Str} {apos pos : Pos} {r : V → List V → Hp → VK → Prop} {ta tb : TE} (sl : Slot "str" name id) (ty : typeOf (.builtin id) = pure (.type "method_descriptor")) (rl : MtR X id r) (ha : PET X a ta) (hb : PE X b tb)
    (h1 : starEach [b] X.env = [(false, eval b X.env)]) (h2 : attributeBase a name X.env (eval a X.env) = eval a X.env) (h3 : (apos.endLine == pos.line) = true) : PET X (.Call (.Attribute a name apos) [b] [] pos) (tM1 r ta tb) := by
  intro pins s σ H Q h0 I h
  refine PySem.Call_method1 h2 h1 h3 (thn (ha pins s σ H _ h0 I h) fun v s1 z => ?_)
  obtain ⟨_, H1, I1, r1, ⟨c, rfl⟩, q1⟩ := z
  have rv := r1
  obtain ⟨tk, rfl⟩ := rv
  refine ⟨"str", _, PySem.F.plainAttrs_str, sl, ty, typeIs_str _ _ _, nofun, Calls.callWith_builtin rfl (Calls.evalArgs_plain (Calls.spliced_cons ?_))⟩
  refine thn (hb.run pins s1 σ H1 _ I1 q1) fun u s2 z2 => ?_
  obtain ⟨y, H2, I2, r2, q2⟩ := z2
  exact Calls.spliced_nil (rl pins s2 σ H2 _ [y] _ [u] Q I2 r1 (.cons r2 .nil) q2)
theorem met_split {apos pos : Pos} (ha : MET X W a p) (hb : ME X W b q) (h1 : starEach [b] X.env = [(false, eval b X.env)] := by rfl) (h2 : attributeBase a "split" X.env (eval a X.env) = eval a X.env := by rfl) (h3 : (apos.endLine == pos.line) = true := by rfl) :
    MET X W (.Call (.Attribute a "split" apos) [b] [] pos) (pM1 oSplit p q) := by
  refine PETimp (pet_meth1 PySem.F.slot_str_split PySem.F.type_str_split mt_split ha hb h1 h2 h3) fun _ _ _ h => m1_of (fun w H m x d2 v2 u Q g r2 h q => ?_) h
  unfold oSplit at h
  split at h
  · rename_i x' y e
    cases e
    obtain rfl := rep_str r2
    split at h
    · rename_i hz
      cases h
      exact ⟨_, _, rfl, rfl, by simpa using hz.1, by rw [← SL_eq]; exact hz.2, fun p hp => q (w.fzn p) _ _ (g.newF hp) ((Ext.new g hp).trans Ext.fzn) (new_lst g hp repL_of_strs)⟩
    · cases h
  · cases h
theorem msst_ret {e : Expr} {pe : PEF} {pos : Pos} (he : MET X W e pe) : PSsT X [.Return (some e) pos] (tS X W (sRet pe)) := by
  refine fun pins s σ H D h0 I h => CwR.psst_one (CwR.pst_ret he) pins s σ H D h0 I ?_
  obtain ⟨w, m, ev', r, g, ev, h, q⟩ := h
  refine tM_bndS g ev h q fun d1 m1 w1 v1 H1 h1 g1 x1 r1 ev1 q1 => ?_
  cases h1
  exact q1 w1 v1 H1 g1 Ext.refl r1
end
section
variable {P : Program} {w : World} {K : PySem.W.Frag} {mg : Str → Option Value} {base : Heap} {x : Str} {st : Stmt} {N ps : List Str} {k : Nat} {b : PSF}
theorem fn_okT (T : Txt1 K mg x st) (S : FnScope N ps (defScope st)) (hnc : ∀ y ∈ (defScope st).names, y.2 ≠ .cell) (hps : 1 ≤ ps.length)
    (hbd : ∀ (kV doc pm : Value) (an : Option Addr) (cdv ct : Value) (us : List Value), us.length = ps.length → bindArgs (PySem.W.fnOf x x (defArgs st) (defBody st) (defScope st) .none kV doc pm an cdv ct) ⟨us, []⟩ = pure (ps.zip us))
    (hb : ∀ (f : Addr) (cdv : Value) (A : Around) (outer : List Env) (s : Shared) (H : Hp) (E : XK), Room k (A.deeper (envOfC x (defScope st) s.heap.objs.size f cdv)) → PSsT (bodyCx P w K mg base N x st f cdv A outer s H E) (defBody st) (tS (bodyCx P w K mg base N x st f cdv A outer s H E) (WE0 E) b)) :
    FnA P w K mg base x (k + 1) ps.length (pFn N.length b) := by
  obtain ⟨a, fd, F, hm⟩ := T.ex
  refine ⟨a, fd, ps, ?_, hm, F.kp, FunD.bindsN F hbd⟩
  obtain ⟨oc, od, dV, kV, doc, pm, an, cdv, ct, osl, rfl, lk, hcd, _, _⟩ := F.ex
  refine fn_ofT lk hcd S hnc hps (fun vs H Q E ⟨w', m, ds, r, g, hd, hl, h, q⟩ => by rw [hd.len]; exact hl) fun A outer s H vs Q E hr ⟨w', m, ds, r, g, hd, hl, h, q⟩ => ⟨_, hb a cdv A outer s H E hr, ?_⟩
  unfold pFn at h
  have ev : EvR K w' H (startE N.length ds) (L2.start N vs) := EvR.start hd
  cases hbv : b (startE N.length ds) m with
  | none => rw [hbv] at h; cases h
  | some u =>
    rw [hbv] at h
    refine ⟨w', m, startE N.length ds, u, g, ev, hbv, ?_⟩
    cases u with
    | rt d m1 => cases h; exact fun w1 v1 H1 g1 x1 r1 => q w1 v1 H1 g1 x1 r1
    | nx e m1 => cases h; exact fun w1 σ1 H1 g1 x1 r1 => q w1 .non H1 g1 x1 (by simp only [Rep])
    | exc c e m1 => cases h; exact fun w1 σ1 H1 C g1 x1 _ hc => q w1 H1 C g1 x1 hc
    | bk _ _ => cases h
    | ct _ _ => cases h
end
end Z

set_option maxRecDepth 100000
set_option maxHeartbeats 4000000
set_option autoImplicit false
namespace Z
open PySem PySem.Spec PyProof.Rows L2
/-! ### what a mirror ends with, where it may raise -/
section
variable {α β : Type}
@[irreducible] def wpX (o : Option (Out α)) (Q : α → Mem → Prop) (E : Str → Mem → Prop) : Prop := match o with
  | some (.ok a m) => Q a m
  | some (.exc c m) => E c m
  | none => False
@[irreducible] def wpY (o : Option SOut) (N : Ev → Mem → Prop) (R : D → Mem → Prop) (E : Str → Mem → Prop) : Prop := match o with
  | some (.nx e m) => N e m
  | some (.rt d m) => R d m
  | some (.exc c _ m) => E c m
  | _ => False
variable {Q Q' : α → Mem → Prop} {N N' : Ev → Mem → Prop} {R R' : D → Mem → Prop} {E E' : Str → Mem → Prop} {m : Mem} {e : Ev}
theorem wpX.mono {o : Option (Out α)} (h : wpX o Q E) (q : ∀ a m, Q a m → Q' a m) (x : ∀ c m, E c m → E' c m) : wpX o Q' E' := by
  unfold wpX at h ⊢
  split at h
  · exact q _ _ h
  · exact x _ _ h
  · exact h.elim
theorem wpY.mono {o : Option SOut} (h : wpY o N R E) (q : ∀ e m, N e m → N' e m) (r : ∀ d m, R d m → R' d m) (x : ∀ c m, E c m → E' c m) : wpY o N' R' E' := by
  unfold wpY at h ⊢
  split at h
  · exact q _ _ h
  · exact r _ _ h
  · exact x _ _ h
  · exact h.elim
theorem wpE.toX {o : Option (Out α)} (h : wpE o Q) : wpX o Q E := by
  obtain ⟨a, m, rfl, q⟩ := h.out
  unfold wpX
  exact q
theorem wpS.toY {o : Option SOut} (h : wpS o N R) : wpY o N R E := by
  unfold wpS at h; unfold wpY
  split at h
  · exact h
  · exact h
  · exact h.elim
theorem wpX.of {o : Option (Out α)} {r : Out α} (h : o = some r) (q : wpX (some r) Q E) : wpX o Q E := by rw [h]; exact q
@[simp] theorem wpX_ok (a : α) : wpX (some (.ok a m)) Q E = Q a m := by unfold wpX; rfl
@[simp] theorem wpX_exc (c : Str) : wpX (some (.exc c m) : Option (Out α)) Q E = E c m := by unfold wpX; rfl
@[simp] theorem wpX_bnd (o : Option (Out β)) (k : β → Mem → Option (Out α)) : wpX (bnd o k) Q E = wpX o (fun a m => wpX (k a m) Q E) E := by
  unfold wpX
  cases o with
  | none => rfl
  | some o => cases o <;> rfl
@[simp] theorem wpX_ite {P : Prop} [Decidable P] (a b : Option (Out α)) : wpX (if P then a else b) Q E = if P then wpX a Q E else wpX b Q E := by split <;> rfl
@[simp] theorem wpY_nx : wpY (some (.nx e m)) N R E = N e m := by unfold wpY; rfl
@[simp] theorem wpY_rt (d : D) : wpY (some (.rt d m)) N R E = R d m := by unfold wpY; rfl
@[simp] theorem wpY_exc (c : Str) : wpY (some (.exc c e m)) N R E = E c m := by unfold wpY; rfl
@[simp] theorem wpY_thenS (o : Option SOut) (k : Ev → Mem → Option SOut) : wpY (thenS o k) N R E = wpY o (fun e m => wpY (k e m) N R E) R E := by
  unfold wpY
  cases o with
  | none => rfl
  | some o => cases o <;> rfl
@[simp] theorem wpY_bndS (o : Option (Out β)) (k : β → Mem → Option SOut) : wpY (bndS o e k) N R E = wpX o (fun a m => wpY (k a m) N R E) E := by
  unfold wpX wpY
  cases o with
  | none => rfl
  | some o => cases o <;> rfl
@[simp] theorem wpY_ite {P : Prop} [Decidable P] (a b : Option SOut) : wpY (if P then a else b) N R E = if P then wpY a N R E else wpY b N R E := by split <;> rfl
@[simp] theorem sRaise_app (c : Str) (p : PEF) : sRaise c p e m = bndS (p e m) e fun _ m1 => some (.exc c e m1) := id rfl
@[simp] theorem pM1_app (o : VK2) (p q : PEF) : pM1 o p q e m = bnd (p e m) fun d1 m1 => match d1 with
  | .str a => bnd (q e m1) fun d2 m2 => lift1 (o (.str a) d2 m2) m2
  | _ => none := id rfl
theorem wp_fnX {n : Nat} {b : PSF} {ds : List D} {Q : D → Mem → Prop} (h : wpY (b (startE n ds) m) (fun _ m1 => Q .non m1) Q E) : wpX (pFn n b ds m) Q E := by
  unfold wpY at h
  unfold pFn wpX
  cases h1 : b (startE n ds) m with
  | none => rw [h1] at h; exact h.elim
  | some o =>
    rw [h1] at h
    cases o with
    | nx e m1 => exact h
    | rt d m1 => exact h
    | exc c e m1 => exact h
    | _ => exact h.elim
/-- try: what is caught -/
theorem wp_try {t : List (Str × List D)} {p : PSF} (h : wpY (p e m) N R fun c m1 => ∃ l, t.lookup c = some l ∧ R (.lst l) m1) : wpS (sTry t p e m) N R := by
  unfold wpY at h
  unfold sTry wpS
  cases h1 : p e m with
  | none => rw [h1] at h; exact h.elim
  | some o =>
    rw [h1] at h
    cases o with
    | exc c e m1 =>
      obtain ⟨l, h2, h3⟩ := h
      simp only [h2]
      exact h3
    | nx e m1 => exact h
    | rt d m1 => exact h
    | _ => exact h.elim
/-- for, where the body may raise -/
theorem wp_loopX {g : PGF} {s : PSF} {R : D → Mem → Prop} (I : List D → Ev → Mem → Prop)
    (st : ∀ d ds e m, I (d :: ds) e m → ∃ e1 m1, g d e m = some (.ok e1 m1) ∧ wpY (s e1 m1) (I ds) R E) (en : ∀ e m, I [] e m → N e m) :
    ∀ (ds : List D) (e : Ev) (m : Mem), I ds e m → wpY (loopF g s ds e m) N R E
  | [], e, m, i => by rw [loopF_nil, wpY_nx]; exact en e m i
  | d :: ds, e, m, i => by
    obtain ⟨e1, m1, h1, h⟩ := st d ds e m i
    rw [loopF_cons, h1, inG_ok]
    unfold wpY at h
    split at h
    · rename_i e2 m2 h2
      rw [h2, ctn_nx]
      exact wp_loopX I st en ds e2 m2 h
    · rename_i d m2 h2
      rw [h2, ctn_rt, wpY_rt]
      exact h
    · rename_i c e2 m2 h2
      rw [h2]
      show wpY (some (SOut.exc c e2 m2)) N R E
      rw [wpY_exc]
      exact h
    · exact h.elim
end
section
variable {Q : D → Mem → Prop} {E : Str → Mem → Prop} {m : Mem} {d : D} {P : Prop} [Decidable P]
@[simp] theorem wpX_l1_if : wpX (lift1 (if P then some d else none) m) Q E = (P ∧ Q d m) := by
  unfold wpX
  by_cases h : P <;> simp [h, lift1]
@[simp] theorem wpX_if_no {α : Type} {Q : α → Mem → Prop} (o : Option (Out α)) : wpX (if P then o else none) Q E = (P ∧ wpX o Q E) := by
  by_cases h : P
  · simp [h]
  · simp only [h, if_false, false_and]
    unfold wpX
    rfl
end
end Z

set_option maxRecDepth 100000
set_option maxHeartbeats 4000000
set_option autoImplicit false
namespace Z
open PySem PySem.Spec PyProof.Rows L2

/-! ### an error that leaves a comprehension's element -/
theorem un_both {fs ex : List Addr} {H H1 H2 : Hp} {h h1 B h2 : Heap} (hfs : ∀ b ∈ fs, H b = none) (u : Un fs ex H H1 h h1) (v : UB fs H1 H2 h1 B h2) {G : Heap} {C : Addr} (hC : ∀ b o, h.get? b = some o → b ≠ C) (nex : ∀ b ∈ fs, b ∉ ex)
    (gB : ∀ b o, B.get? b = some o → b ≠ C → G.get? b = some o) (gF : ∀ b o sl, b ∈ fs → h.get? b = some o → h2.get? b = some { o with slots := sl } → ∃ sl', G.get? b = some { o with slots := sl' }) : Un fs ex H H2 h G where
  keep := fun b o e n hb hx => gB b o (v.keep b o (u.keep b o e n hb hx) (u.free b o e n hx) hb) (hC b o e)
  slot := fun b o e n hb hx => by
    obtain ⟨sl, e1⟩ := u.slot b o e n hb hx
    obtain ⟨sl2, e2⟩ := v.slot b _ e1 hb
    exact gF b o sl2 hb e e2
  free := fun b o e n hx => by
    have n1 := u.free b o e n hx
    obtain ⟨sl, e1⟩ := u.any e n hx
    exact v.free b _ e1 n1
  there := fun b o e hx => by
    by_cases hb : b ∈ fs
    · obtain ⟨sl, e1⟩ := u.slot b o e (hfs b hb) hb hx
      obtain ⟨sl2, e2⟩ := v.slot b _ e1 hb
      obtain ⟨sl3, e3⟩ := gF b o sl2 hb e e2
      exact ⟨_, e3⟩
    · obtain ⟨o1, e1⟩ := u.there b o e hx
      obtain ⟨o2, e2⟩ := v.there b o1 e1 hb
      exact ⟨o2, gB b o2 e2 (hC b o e)⟩
  tups := fun b xs e => v.tups b xs (u.tups b xs e)
  frzs := fun b o xs e => v.frzs b o xs (u.frzs b o xs e)
  tbls := fun b ps e => by
    obtain ⟨m1, e1⟩ := u.tbls b ps e
    obtain ⟨m2, e2⟩ := v.tbls b _ e1
    exact ⟨m1 ++ m2, by rw [e2, Array.append_assoc]⟩
section
variable {X : Cx} {W : WX}
/-- the element's call let an error out: it is noted by the def's frame and goes on behind the block -/
theorem comp_catch {pins pinsB : List (Addr × Obj)} {σ σ1 : L2.St} {H3 H1 : Hp} {s3 s1 s' : Shared} {scope : Scope} {ce : Env} {fp : List Addr} {pn : List (Addr × Obj)} {xe : Value → Shared → Prop} {e : Value}
    (tk : Takes X W) (hs : X.stack = X.env :: X.outer) (hf : X.env.frame = some X.env.locals) (hcf : ce.frame = X.env.frame) (cL : ce.locals = s3.heap.objs.size)
    (I3 : Inv X pins σ H3 s3) (hfp : ∀ b ∈ fp, FpOk X pins H3 b) (I1 : Inv ((X.blk s3 H3 scope ce fp).tr pn xe) pinsB σ1 H1 s1)
    (c : CX X.prog X.w X.stack H1 s1 (fun cls d H' => W cls d σ H') e s') :
    notedBy (model X.prog X.w) X.A ce (CompFails (model X.prog X.w) X.A X.xe ce) e s' := by
  obtain ⟨a, B, H2, cls, d, rfl, fl, hok, ub, na, hos, ag, hw⟩ := c
  have hfr : X.A.frames = some (X.env :: X.outer) := by rw [I3.ok.frames, hs]
  show wpAny _ _ (noteFrame (.ref a) ce) _ _ s'
  rw [noteFrame_env _ hcf]
  have fl' : HandSPX.FlyingZ B (X.env :: X.outer) a (Zc cls d) s'.heap := by rw [← hs]; exact fl
  refine HandSPX.looks_onZ Zc.steady hfr hf fl' fun h1 hh up1 => ?_
  obtain ⟨st1, na1, ff1, oe, vs, T, oT, ts, ga, hz, hd, hv1, hnT, hTe, gT, hdT, hts3⟩ := hh
  -- the block's names
  obtain ⟨m, hns, _⟩ := I1.loc
  have hns : s1.heap.Ns ce.locals m := hns
  obtain ⟨oC, es, ep, gC, rC⟩ := hns
  have hC1 : H1 ce.locals = none := I1.free
  have nfC : ce.locals ∉ frs X.stack := fun hm => by
    obtain ⟨_, o, ho, _⟩ := I3.stack.mem hm
    have := Heap.lt_size ho
    rw [cL] at this
    exact absurd this (Nat.lt_irrefl _)
  have bC : B.get? ce.locals = some oC := ub.keep _ _ gC hC1 nfC
  have aC : a ≠ ce.locals := fun z => by rw [z, bC] at na1; cases na1
  have tC : T ≠ ce.locals := fun z => by rw [z, bC] at hnT; cases hnT
  refine ⟨m, ⟨oC, es, ep, st1 _ _ bC, rC⟩, fun h2 m2 hn2 sb2 => ?_⟩
  have g2 : ∀ b, b ≠ ce.locals → h2.get? b = h1.get? b := fun b hb => sb2.2 b hb
  -- the ground without the block
  have keepB : ∀ b o, (PySem.W.hideAll B [ce.locals]).get? b = some o → B.get? b = some o ∧ b ≠ ce.locals := fun b o q => ⟨PySem.W.of_hideAll _ q, fun z => by
    rw [PySem.W.hideAll_none _ (by rw [z]; simp)] at q; cases q⟩
  have inB : ∀ b o, B.get? b = some o → b ≠ ce.locals → (PySem.W.hideAll B [ce.locals]).get? b = some o := fun b o q hb => PySem.W.hideAll_get _ q (by simpa using hb)
  have held : HandSPX.HeldZ (PySem.W.hideAll B [ce.locals]) (X.env :: X.outer) a (Zc cls d) X.env.locals h2 := by
    refine ⟨fun b o q => ?_, ?_, ?_, oe, vs, T, oT, ts, (g2 a aC).trans ga, hz, hd, hv1, ?_, hTe, (g2 T tC).trans gT, hdT, hts3⟩
    · obtain ⟨q1, q2⟩ := keepB b o q
      exact (g2 b q2).trans (st1 b o q1)
    · cases q : (PySem.W.hideAll B [ce.locals]).get? a with
      | none => rfl
      | some o => rw [(keepB a o q).1] at na1; cases na1
    · refine funFrames_none (Heap.FunFrames.sameBut sb2 hn2 ff1) fun b hb => ?_
      cases q : (PySem.W.hideAll B [ce.locals]).get? b with
      | none => rfl
      | some o =>
        obtain ⟨q1, _⟩ := keepB b o q
        have := (ff1.mem hb).1
        rw [q1] at this
        cases this
    · cases q : (PySem.W.hideAll B [ce.locals]).get? T with
      | none => rfl
      | some o => rw [(keepB T o q).1] at hnT; cases hnT
  unfold PySem.passOn
  refine wpAny_bind (wpAny_field ((g2 a aC).trans ga) hd hv1 ?_)
  rw [if_neg (show ¬ ((Value.ref T == Value.none) = true) from by simp), hcf, hf]
  have fin : ∀ h4, HandSPX.HeldZ (PySem.W.hideAll B [ce.locals]) (X.env :: X.outer) a (Zc cls d) X.env.locals h4 → h2.UpToSlots h4 → X.xe (.ref a) { s' with heap := h4 } := fun h4 held4 up4 => by
    refine tk _ _ ?_
    obtain ⟨G, k1, k2⟩ := restrict h4 fun b => ((PySem.W.hideAll B [ce.locals]).get? b).isSome || decide (b ∈ frs X.stack)
    have gB : ∀ b o, B.get? b = some o → b ≠ ce.locals → G.get? b = some o := fun b o q hb => by
      have q' := inB b o q hb
      rw [k1 b (by simp [q'])]
      exact held4.1 b o q'
    have gF : ∀ b, b ∈ frs X.stack → G.get? b = h4.get? b := fun b hb => k1 b (by simp [hb])
    have og : ∀ b o, G.get? b = some o → h4.get? b = some o ∧ (((PySem.W.hideAll B [ce.locals]).get? b).isSome = true ∨ b ∈ frs X.stack) := fun b o q => by
      cases z : (((PySem.W.hideAll B [ce.locals]).get? b).isSome || decide (b ∈ frs X.stack)) with
      | false => rw [k2 b z] at q; cases q
      | true =>
        rw [k1 b z] at q
        exact ⟨q, by simpa [Bool.or_eq_true] using z⟩
    have ltC : ∀ b o, s3.heap.get? b = some o → b ≠ ce.locals := fun b o q z => by
      have := Heap.lt_size q
      rw [z, cL] at this
      exact absurd this (Nat.lt_irrefl _)
    have C2 : H2 ce.locals = none := ub.free _ _ gC hC1
    have u1 : Un (frs X.stack) fp H3 H1 s3.heap s1.heap := I1.base
    have nex : ∀ b ∈ frs X.stack, b ∉ fp := fun b hb hp => by
      rcases List.mem_cons.mp (I3.stkSub b hb) with z | z
      · exact (hfp b hp).2.1 z
      · exact (hfp b hp).2.2.1 z
    have u2 : Un (frs X.stack) fp H3 H2 s3.heap G := un_both I3.stkFree u1 ub ltC nex gB fun b o sl hb q q2 => by
      obtain ⟨_, o', q3, hnf⟩ := I3.stack.mem hb
      rw [q] at q3; cases q3
      obtain ⟨sl3, q4⟩ := up1 b _ q2 hnf
      have q5 : h2.get? b = some { o with slots := sl3 } := (g2 b (ltC b o q)).trans q4
      obtain ⟨sl4, q6⟩ := up4 b _ q5 hnf
      exact ⟨sl4, by rw [gF b hb]; exact q6⟩
    have hokG : HOk X.prog X.w H2 G := fun b o q => (hok b o q).stay (fun x u hx q2 => gB x u q2 fun z => by
      rcases hx with hx | hx
      · rw [hx] at z; rw [z, C2] at q; cases q
      · rw [z, C2] at hx; cases hx) (fun _ z => z) fun _ _ z => z
    refine ⟨a, PySem.W.hideAll B [ce.locals], { s3 with heap := G, gens := s'.gens, drawn := s'.drawn, toks := s'.toks }, pins, σ, H2, cls, d, rfl, ?_, fun b o q hb => ?_, Heap.UpToSlots.of_keeps fun b o q => (og b o q).1, .inr (.inr (by rw [hs]; exact held4)), na, hos.trans I1.os, ag, hw⟩
    · exact I3.call (ch := fp) u2 hokG ag fun b hb => ⟨(hfp b hb).2.2.2.1, (hfp b hb).2.1, (hfp b hb).2.2.2.2.1, (hfp b hb).2.2.2.2.2⟩
    · obtain ⟨q1, q2⟩ := og b o q
      rcases q2 with q2 | q2
      · obtain ⟨o', q3⟩ := Option.isSome_iff_exists.mp q2
        have q4 := held4.1 b o' q3
        rw [q1] at q4; cases q4
        exact q3
      · exact absurd q2 hb
  have fin2 : wpAny (model X.prog X.w) X.A (setFlight (.ref a) (some X.env.locals)) (fun _ s4 => wpAny (model X.prog X.w) X.A (throw (.ref a) : Sem Value) (fun _ _ => False) X.xe s4) X.xe { s' with heap := h2 } :=
    HandSPX.setFlight_onZ (s := { s' with heap := h2 }) held fun h4 held4 up4 => wpAny_throw (fin h4 held4 up4)
  first
    | exact wpAny_bind (wpAny_pure (wpAny_bind fin2))
    | exact wpAny_bind fin2
end
end Z

set_option maxRecDepth 100000
set_option maxHeartbeats 4000000
set_option autoImplicit false
namespace Z
open PySem PySem.Spec PyProof.Rows L2

/-! ### a list comprehension whose element may raise -/
/-- the block's element: every context whose errors are taken -/
abbrev ElX (X : Cx) (scope : Scope) (elt : Expr) (te : WX → TE) : Prop :=
  ∀ (s : Shared) (H : Hp) (C : Addr) (cl : List (Str × Addr)) (fp : List Addr) (pn : List (Addr × Obj)) (xe : Value → Shared → Prop) (W' : WX),
    (∀ σ, PassesAt (CX X.prog X.w) ((X.blk s H scope (compEnvC scope cl C X.env) fp).tr pn xe) σ (WE W' σ)) → PE ((X.blk s H scope (compEnvC scope cl C X.env) fp).tr pn xe) elt (te W')
section
variable {X : Cx} {W : WX} {elt tg iter : Expr} {ifs : List Expr} {scope : Scope} {own : List (Str × Nat)} {pos : Pos} {wi : TI} {g : TG} {tt : TT} {te : WX → TE}
theorem pe_lcX (tk : Takes X W) (hst : X.stack = X.env :: X.outer) (hfr : X.env.frame = some X.env.locals) (hc : X.calm = true) (hN : X.N.Nodup) (hi : PI X tg iter wi) (ok : BlkOk X.N X.env.scope scope own)
    (hg : ∀ (s : Shared) (H : Hp) (C : Addr) (cl : List (Str × Addr)) (fp : List Addr), PG (X.blk s H scope (compEnvC scope cl C X.env) fp) tg g)
    (ht : ∀ (s : Shared) (H : Hp) (C : Addr) (cl : List (Str × Addr)) (fp : List Addr), PTs (X.blk s H scope (compEnvC scope cl C X.env) fp) ifs tt)
    (he : ElX X scope elt te) (hfold : ∀ x, foldedSetIterable iter X.env x = pure x := by intro _; rfl) :
    PE X (.ListComp elt [⟨tg, iter, ifs, 0⟩] scope pos) (fun σ H Q => tLc wi g tt (te fun cls d _ H' => W cls d σ H') (own.map (·.2)) σ H Q) := by
  refine ⟨fun pins s σ H Q I0 want => ?_⟩
  rw [eval_ListComp]
  have free1 : ∀ y ∈ scope.names, y.2 = .free → ∃ c, X.env.cells.lookup y.1 = some c := fun y hy z =>
    (ok.free y hy z).elim (fun k => I0.ok.has _ (.inl k)) (fun k => I0.ok.has _ (.inr k))
  refine comprehension_at (use := none) rfl hfold (closure_ok free1) ok.kind (fun y hy z => by rw [ok.uniq y hy, z]) ?_
  refine thn (hi.run pins s σ H _ I0 want) fun xv sa hxa => thn hxa fun itv sb hb => ?_
  obtain ⟨it, fp, tn, J, Hb, rfl, Ib, T, tn0, fpb, goal⟩ := hb
  refine wpAny_newObj_type (newEnv_comp ?_) (by show 0 ≤ sizeLine; decide)
  generalize hL : sb.heap.objs.size = L
  have freshL : Hb L = none := Ib.hok.fresh (Nat.le_of_eq hL)
  obtain ⟨Wv, ⟨n0, start⟩, turns⟩ := goal L freshL
  generalize hsc : ({ sb with heap := sb.heap.push { cls := .type "list", data := .seq ([] : List Value).toArray } } : Shared) = sc
  have hpc : sc.heap = sb.heap.push { cls := .type "list", data := .seq ([] : List Value).toArray } := by rw [← hsc]
  have Ic : Inv X pins σ (upd Hb L (.lst [])) sc := by
    rw [← hsc]
    exact Ib.laid (t' := sb.toks) (fun b o z => Heap.get?_push_of_some _ z) (Nat.le_of_eq hL) ⟨Nat.zero_le _, [], 0, .nil, by rw [← hL]; exact Heap.get?_push_size _ rfl⟩
  have below : ∀ b ∈ fp, b < sb.heap.objs.size := fun b hb => by
    obtain ⟨_, z, _⟩ := T.obj _ _ tn0 b hb
    exact Heap.lt_size z
  have fpc : ∀ b ∈ fp, FpOk X pins (upd Hb L (.lst [])) b ∧ b < sc.heap.objs.size := fun b hb => by
    have lt := below b hb
    obtain ⟨q1, q2⟩ := fpb b hb
    refine ⟨⟨?_, q2⟩, ?_⟩
    · rw [upd_ne (fun z => absurd (hL ▸ z ▸ lt) (Nat.lt_irrefl _))]; exact q1
    · rw [hpc, Heap.size_push]; exact Nat.lt_succ_of_lt lt
  have tnc : tn 0 sc.heap := T.keep _ _ _ tn0 fun b _ o z => by rw [hpc]; exact Heap.get?_push_of_some _ z
  have Id := block_start Ic ok hN fpc
  generalize hcl : cellsFrom (sc.heap.objs.size + 1) scope.names (cloFrom X.env.cells scope.names []) = cl at Id
  have ruleG := hg sc (upd Hb L (.lst [])) sc.heap.objs.size cl fp
  have ruleT := ht sc (upd Hb L (.lst [])) sc.heap.objs.size cl fp
  have ruleE := he sc (upd Hb L (.lst [])) sc.heap.objs.size cl fp
  have noneFp : ∀ b ∈ fp, (upd Hb L (.lst [])) b = none := fun b hb => (fpc b hb).1.1
  generalize hHc : upd Hb L (.lst []) = Hc at Ic Id ruleG ruleT ruleE start noneFp fpc
  generalize hce : compEnvC scope cl sc.heap.objs.size X.env = ce at Id ruleG ruleT ruleE
  have ceL : ce.locals = sc.heap.objs.size := by subst hce; rfl
  have ceF : ce.frame = X.env.frame := by subst hce; rfl
  generalize hsd : ({ sc with heap := pushCells (sc.heap.push { cls := .type "dict", data := .dict #[] }) scope.names } : Shared) = sd at Id
  have tnd : tn 0 sd.heap := T.keep _ _ _ tnc fun b _ o z => by rw [← hsd]; exact pushCells_keeps _ _ _ _ (Heap.get?_push_of_some _ z)
  show codeAny (model X.prog X.w) X.A (.compStart (.ListComp elt [⟨tg, iter, ifs, 0⟩] scope pos) 0 (.ref it) (.ref L) (compEnvC scope cl sc.heap.objs.size X.env)) (compEnds (model X.prog X.w) X.A X.xe none (EP X pins σ Q) (.ref L) (compEnvC scope cl sc.heap.objs.size X.env)) sd
  rw [hce]
  have away : ∀ {σ' : L2.St} {H' : Hp} {s' : Shared}, Inv (X.blk sc Hc scope ce fp) [] σ' H' s' → (∀ b ∈ fp, H' b = none) → ∀ b ∈ fp, FpOk (X.blk sc Hc scope ce fp) [] H' b := fun {σ' H' s'} I' hn b hb =>
    ⟨hn b hb, (I'.ok.exf b hb).1, I'.ok.exfs b hb, .inl hb, fun x c z => (I'.ok.exf b hb).2 x c z, fun p hp => by cases hp⟩
  have go : codeAny (model X.prog X.w) X.A (.compLoop (.ListComp elt [⟨tg, iter, ifs, 0⟩] scope pos) 0 (.ref it) (.ref L) ce) (compEnds (model X.prog X.w) X.A X.xe none (EP X pins σ Q) (.ref L) ce) sd := by
    refine compLoop_any (fun n s' => ∃ i H', Inv (X.blk sc Hc scope ce fp) [] (L2.wipe σ (own.map (·.2))) H' s' ∧ tn i s'.heap ∧ (∀ b ∈ fp, H' b = none) ∧ Wv i n H') ?_ n0 ⟨0, Hc, Id, tnd, noneFp, start⟩
    rintro n s5 ⟨i, H5, I5, tn5, none5, w5⟩
    rcases turns i n H5 w5 with ⟨stop, fin⟩ | ⟨more, Nx, hNx, step⟩
    · refine thnF (T.done (X.blk sc Hc scope ce fp) rfl rfl rfl hc i [] s5 _ H5 (fun _ _ => False) I5 (away I5 none5) tn5 stop) fun r s6 q6 => ?_
      obtain ⟨rfl, I6⟩ := q6
      have I7 : Inv X pins σ H5 s6 := Ic.call' (ch := fp) I6.os I6.base I6.hok I6.bare fun b hb => ⟨(fpc b hb).1.2.2.2.1, (fpc b hb).1.2.1, (fpc b hb).1.2.2.2.2.1, (fpc b hb).1.2.2.2.2.2⟩
      have nC : H5 sc.heap.objs.size = none := by
        have z : H5 ce.locals = none := I6.free
        rwa [ceL] at z
      obtain ⟨m6, ns6, _⟩ := I6.loc
      have ns6 : s6.heap.Ns ce.locals m6 := ns6
      refine ⟨m6, ns6, fun h7 sb7 => ?_⟩
      rw [ceL] at sb7
      obtain ⟨f0, f1, _, f3, f4, f5⟩ := Ic.fpOk (H' := H5) (Nat.le_refl _) nC
      exact ⟨.ref L, H5, I7.turned (t' := s6.toks) (fun b o hb z => (sb7.2 b hb).trans z) f0 f1 f3 f4 f5, rfl, fin⟩
    · refine thnF (T.item (X.blk sc Hc scope ce fp) rfl rfl rfl hc i [] s5 _ H5 (fun _ _ => False) I5 (away I5 none5) tn5 more) fun r s6 q6 => ?_
      obtain ⟨u, rfl, q6⟩ := q6
      refine thnF q6 fun _ s7 q7 => ?_
      obtain ⟨x, H7, I7, r7, y7, tn7, none7⟩ := q7
      have I7p := I7.pinned (away I7 none7) (T.obj _ _ tn7)
      refine thnF (ruleG.run _ s7 _ H7 x u _ I7p r7 (step x H7 y7)) fun _ s8 q8 => ?_
      obtain ⟨σ8, H8, I8, wp8, q8⟩ := q8
      refine thnF (ruleT.run _ s8 σ8 H8 _ I8 q8) fun b s9 q9 => ?_
      obtain ⟨H9, I9, q9⟩ := q9
      have again : ∀ {s' : Shared} {H' : Hp}, Inv (X.blk sc Hc scope ce fp) ([] ++ pinsAt fp s7.heap) σ8 H' s' → Nx H' → ∃ m, m < n ∧ ∃ i H', Inv (X.blk sc Hc scope ce fp) [] (L2.wipe σ (own.map (·.2))) H' s' ∧ tn i s'.heap ∧ (∀ b ∈ fp, H' b = none) ∧ Wv i m H' := fun {s' H'} I' nx => by
        obtain ⟨n', less, w'⟩ := hNx H' nx
        have stay : ∀ b ∈ fp, ∀ o, s7.heap.get? b = some o → s'.heap.get? b = some o ∧ H' b = none := fun b hb o z => by
          obtain ⟨z1, z2, _⟩ := I'.pin (b, o) (List.mem_append_right _ (List.mem_append_right _ (mem_pinsAt hb z)))
          exact ⟨z1, z2⟩
        refine ⟨n', less, i + 1, H', (I'.unpinned (pins := [])).weak (by rw [← wp8, wipe_length]) fun j v z => ?_, T.keep _ _ _ tn7 fun b hb o z => (stay b hb o z).1, fun b hb => ?_, w'⟩
        · rw [← wp8] at z
          exact (wipe_some z).1
        · obtain ⟨o, z, _⟩ := T.obj _ _ tn7 b hb
          exact (stay b hb o z).2
      cases b with
      | false =>
        simp only [Bool.false_eq_true, if_false] at q9 ⊢
        exact again I9 q9
      | true =>
        simp only [if_true] at q9 ⊢
        have okB := I9.ok
        have pe1 := ruleE ((X.blk sc Hc scope ce fp).pn ++ ([] ++ pinsAt fp s7.heap)) (notedBy (model X.prog X.w) X.A ce (CompFails (model X.prog X.w) X.A X.xe ce)) (fun cls d _ H' => W cls d σ H')
          (fun σx pinsx Hx sx ex sy Ix cx => comp_catch tk hst hfr ceF ceL Ic (fun b hb => (fpc b hb).1) Ix cx)
        refine wpAny_mono (pe1.run [] s9 σ8 H9 _ (I9.toTry _) q9) (fun z s10 q10 => ?_) fun _ _ z => z
        obtain ⟨yv, H10, I10, r10, acc, hL10, hz10, nx⟩ := q10
        have I10' := I10.ofTry okB
        exact app_ok (X := X.blk sc Hc scope ce fp) I10' hL10 hz10 r10 fun s11 I11 => again I11 nx
  exact codeAny_compStart_list go (T.self X.A 0 _ _ _ tnd go)
end
end Z

set_option maxRecDepth 100000
set_option maxHeartbeats 4000000
set_option autoImplicit false
namespace Z
open PySem PySem.Spec PyProof.Rows L2
theorem Good.dropP {K : PySem.W.Frag} {w : Wd} {H : Hp} {m : Mem} {p : Addr} (g : Good K w H m) : Good K (w.drop p) H m :=
  ⟨g.len, g.nd, fun i c a hc ha => repC_pv (g.at' i c a hc ha), g.fz, fun a ha => g.pv a ha.2⟩
def lcX (T : Tgt) (t : PTF) (el : PEF) (e : Ev) : List D → Mem → Option (Out (List D))
  | [], m => some (.ok [] m)
  | d :: ds, m => match tgtE T d e with
    | some e1 => match t e1 m with
      | some (.ok true m2) => match el e1 m2 with
        | some (.ok y m3) => match lcX T t el e ds m3 with
          | some (.ok ys m4) => some (.ok (y :: ys) m4)
          | some (.exc c m4) => some (.exc c m4)
          | none => none
        | some (.exc c m3) => some (.exc c m3)
        | none => none
      | some (.ok false m2) => lcX T t el e ds m2
      | _ => none
    | none => none
def pLcX (vs : List Nat) (pi : PIF) (T : Tgt) (t : PTF) (el : PEF) : PEF := fun e m => bnd (pi e m) fun ds m1 => if ds.length ≤ SL then (match lcX T t el (wipeE e vs) ds m1 with
  | some (.ok ys m2) => some (.ok (.lst ys) m2)
  | some (.exc c m2) => some (.exc c m2)
  | none => none) else none
/-- what is left to come, behind what is there -/
def fin2 (acc : List D) : Out (List D) → Out D
  | .ok ys m => .ok (.lst (acc ++ ys)) m
  | .exc c m => .exc c m
section
variable {X : Cx} {W : WX}
theorem lc_ofX {vs : List Nat} {pi : PIF} {T : Tgt} {t : PTF} {el : PEF} {σ : L2.St} {H : Hp} {Q : VK} (hT : ∀ i ∈ T.slots, i ∈ vs) (h : tM X W (pLcX vs pi T t el) σ H Q) : tLc (tI X W pi) (tgtG X.K T) (tT X W0 t) (tM X (fun cls d _ H' => W cls d σ H') el) vs σ H Q := by
  obtain ⟨w, m, e, r, g0, ev, h, qq⟩ := h
  show tI X W pi σ H _
  unfold pLcX at h
  cases hp : pi e m with
  | none => rw [hp] at h; cases h
  | some o =>
    rw [hp] at h
    cases o with
    | exc c m1 => cases h; exact ⟨w, m, e, _, g0, ev, hp, qq⟩
    | ok ds m1 =>
      refine ⟨w, m, e, _, g0, ev, hp, fun w1 H1 J g1 x1 y1 p hpn => ?_⟩
      have h : (if ds.length ≤ SL then (match lcX T t el (wipeE e vs) ds m1 with
        | some (.ok ys m2) => some (.ok (.lst ys) m2)
        | some (.exc c m2) => some (.exc c m2)
        | none => none) else none) = some r := h
      split at h
      · rename_i hz
        cases hl : lcX T t el (wipeE e vs) ds m1 with
        | none => rw [hl] at h; cases h
        | some o =>
            rw [hl] at h
            have h : r = fin2 [] o := by
              cases o with
              | exc _ _ => cases h; rfl
              | ok all m2 => cases h; rfl
            obtain ⟨g2, x2, ev2⟩ := g1.hold0 hpn
            have evw : EvR X.K (w1.hold p) (upd H1 p (.lst [])) (wipeE e vs) (L2.wipe σ vs) := (ev2 (ev.mono x1)).wipe vs
            refine ⟨fun i n H' => n = ds.length - i ∧ i ≤ ds.length ∧ ∃ w' m' acc xs rem, Good X.K w' H' m' ∧ w'.pv p ∧ H' p = some (.lst xs) ∧ RepL X.K w' H' acc xs ∧ Ext X.K w1 H1 (w'.drop p) H' ∧ EvR X.K w' H' (wipeE e vs) (L2.wipe σ vs) ∧
              lcX T t el (wipeE e vs) (ds.drop i) m' = some rem ∧ r = fin2 acc rem ∧ acc.length ≤ i, ⟨ds.length, by simp, Nat.zero_le _, w1.hold p, m1, [], [], o, g2, .inl rfl, upd_same, RepL.nil, x2, evw, hl, h, Nat.le_refl _⟩, ?_⟩
            rintro i n H' ⟨rfl, hi, w', m', acc, xs, rem, g', pv', hx', ra, x', ev', hl', hall, hacc⟩
            by_cases hlt : i < ds.length
            · refine .inr ⟨y1.go i _ H' x' hlt, fun H2 => ∃ w2 m3 acc2 xs2 rem2, Good X.K w2 H2 m3 ∧ w2.pv p ∧ H2 p = some (.lst xs2) ∧ RepL X.K w2 H2 acc2 xs2 ∧ Ext X.K w1 H1 (w2.drop p) H2 ∧ EvR X.K w2 H2 (wipeE e vs) (L2.wipe σ vs) ∧
                lcX T t el (wipeE e vs) (ds.drop (i + 1)) m3 = some rem2 ∧ r = fin2 acc2 rem2 ∧ acc2.length ≤ i + 1, fun H2 hN => ⟨ds.length - (i + 1), by omega, rfl, hlt, hN⟩, fun x H2 hy => ?_⟩
              have hd : ds[i]? = some ds[i] := List.getElem?_eq_getElem hlt
              -- the item comes at a world that holds p too
              obtain ⟨w2, g2', x2', rd⟩ : ∃ w2, Good X.K w2 H2 m' ∧ Ext X.K w' H' w2 H2 ∧ Rep X.K w2 H2 ds[i] x := by
                have xy : Ext X.K w1 H1 w' H' := ⟨x'.ρ, x'.fz, x'.tup, x'.lst, x'.ro, fun a ha => ⟨(x'.pv a ha).1.2, (x'.pv a ha).2⟩⟩
                exact y1.yld i x w' H' H2 m' g' xy hy _ hd
              rw [List.drop_eq_getElem_cons hlt] at hl'
              unfold lcX at hl'
              cases htg : tgtE T ds[i] (wipeE e vs) with
              | none => rw [htg] at hl'; cases hl'
              | some e1 =>
                rw [htg] at hl'
                refine tgt_run hT rd (ev'.mono x2') htg fun σ2 ev3 hw => ⟨?_, ?_⟩
                · rw [hw]
                  exact wipe_wipe fun _ h => h
                have ev4 : EvR X.K w2 H2 (wipeE e vs) (L2.wipe σ vs) := ev'.mono x2'
                have hp2 : w2.pv p ∧ H2 p = some (.lst xs) := ⟨(x2'.pv p pv').1, ((x2'.pv p pv').2).trans hx'⟩
                have xx2 : Ext X.K w1 H1 (w2.drop p) H2 := x'.trans x2'.drop
                -- the test
                cases ht : t e1 m' with
                | none => simp only [ht] at hl'; cases hl'
                | some o =>
                  cases o with
                  | exc _ _ => simp only [ht] at hl'; cases hl'
                  | ok b m3 =>
                    refine ⟨w2, m', e1, _, g2', ev3, ht, fun w3 H3 g3 x3 => ?_⟩
                    have hp3 : w3.pv p ∧ H3 p = some (.lst xs) := ⟨(x3.pv p hp2.1).1, ((x3.pv p hp2.1).2).trans hp2.2⟩
                    cases b with
                    | false =>
                      simp only [ht] at hl'
                      refine iteF ?_
                      exact ⟨w3, m3, acc, xs, rem, g3, hp3.1, hp3.2, (ra.mono x2').mono x3, xx2.trans x3.drop, ev4.mono x3, hl', hall, by omega⟩
                    | true =>
                      simp only [ht] at hl'
                      refine iteT ?_
                      cases he : el e1 m3 with
                      | none => simp only [he] at hl'; cases hl'
                      | some o2 =>
                        cases o2 with
                        | exc c m4 =>
                          simp only [he] at hl'
                          cases hl'
                          refine ⟨w3, m3, e1, _, g3, ev3.mono x3, he, fun w4 H4 C g4 x4 hc => ?_⟩
                          subst hall
                          exact qq (w4.drop p) H4 C g4.dropP (x1.trans ((xx2.trans x3.drop).trans x4.drop)) hc
                        | ok y m4 =>
                          simp only [he] at hl'
                          refine ⟨w3, m3, e1, _, g3, ev3.mono x3, he, fun w4 v4 H4 g4 x4 r4 => ?_⟩
                          have hp4 : w4.pv p ∧ H4 p = some (.lst xs) := ⟨(x4.pv p hp3.1).1, ((x4.pv p hp3.1).2).trans hp3.2⟩
                          have ra4 := ((ra.mono x2').mono x3).mono x4
                          refine ⟨xs, hp4.2, by rw [ra.len, ← SL_eq]; omega, ?_⟩
                          obtain ⟨g5, x5⟩ := g4.grow (ys := xs ++ [v4]) hp4.1 hp4.2
                          cases hrest : lcX T t el (wipeE e vs) (ds.drop (i + 1)) m4 with
                          | none => rw [hrest] at hl'; cases hl'
                          | some o3 =>
                            rw [hrest] at hl'
                            have q6 : RepL X.K w4 (upd H4 p (.lst (xs ++ [v4]))) (acc ++ [y]) (xs ++ [v4]) := by
                              have h1 : RepL X.K (w4.drop p) H4 (acc ++ [y]) (xs ++ [v4]) := repL_pv (ra4.append (RepL.cons r4 RepL.nil))
                              exact repL_pv (w := w4.drop p) (f := w4.pv) (h1.mono x5)
                            have ev6 : EvR X.K w4 (upd H4 p (.lst (xs ++ [v4]))) (wipeE e vs) (L2.wipe σ vs) := by
                              have h1 : EvR X.K (w4.drop p) H4 (wipeE e vs) (L2.wipe σ vs) := evR_pv ((ev4.mono x3).mono x4)
                              exact evR_pv (w := w4.drop p) (f := w4.pv) (h1.mono x5)
                            refine ⟨w4, m4, acc ++ [y], xs ++ [v4], o3, g5, hp4.1, upd_same, q6, ((xx2.trans x3.drop).trans x4.drop).trans x5, ev6, hrest, ?_, ?_⟩
                            · cases o3 with
                              | exc _ _ => cases hl'; exact hall
                              | ok ys' m5 => cases hl'; rw [hall]; simp only [fin2, List.append_assoc]; rfl
                            · rw [List.length_append, List.length_singleton]; omega
            · have e0 : i = ds.length := by omega
              subst e0
              rw [List.drop_length] at hl'
              cases hl'
              simp only [fin2, List.append_nil] at hall
              subst hall
              obtain ⟨w9, g3, x9, r3⟩ := fin_F.ok _ _ _ _ _ _ g' pv' hx' ra
              exact .inl ⟨y1.stop _ H' x', qq w9 _ H' g3 ((x1.trans x').trans x9) r3⟩
      · cases h
theorem me_lcX {elt tg iter : Expr} {ifs : List Expr} {scope : Scope} {own : List (Str × Nat)} {pos : Pos} {pi : PIF} {T : Tgt} {t : PTF} {el : PEF} (tk : Takes X W) (hst : X.stack = X.env :: X.outer) (hfr : X.env.frame = some X.env.locals) (hc : X.calm = true) (hN : X.N.Nodup) (hi : MI X W tg iter pi)
    (ok : BlkOk X.N X.env.scope scope own) {vs : List Nat} (hv : own.map (·.2) = vs) (hT : ∀ i ∈ T.slots, i ∈ vs)
    (hg : ∀ (s : Shared) (H : Hp) (C : Addr) (cl : List (Str × Addr)) (fp : List Addr), PG (X.blk s H scope (compEnvC scope cl C X.env) fp) tg (tgtG X.K T)) (ht : ∀ (s : Shared) (H : Hp) (C : Addr) (cl : List (Str × Addr)) (fp : List Addr), MTs (X.blk s H scope (compEnvC scope cl C X.env) fp) W0 ifs t)
    (he : ∀ (s : Shared) (H : Hp) (C : Addr) (cl : List (Str × Addr)) (fp : List Addr) (pn : List (Addr × Obj)) (xe : Value → Shared → Prop) (W' : WX), Tk ((X.blk s H scope (compEnvC scope cl C X.env) fp).tr pn xe) W' → ME ((X.blk s H scope (compEnvC scope cl C X.env) fp).tr pn xe) W' elt el)
    (hs : ∀ x, foldedSetIterable iter X.env x = pure x := by intro _; rfl) : ME X W (.ListComp elt [⟨tg, iter, ifs, 0⟩] scope pos) (pLcX vs pi T t el) := by
  subst hv
  exact PE.imp (pe_lcX (te := fun W' => tM X W' el) (tt := tT X W0 t) tk hst hfr hc hN hi ok hg ht (fun s H C cl fp pn xe W' h => he s H C cl fp pn xe W' h) hs) fun _ _ _ h => lc_ofX hT h
end
end Z

set_option maxRecDepth 100000
set_option maxHeartbeats 4000000
set_option autoImplicit false
namespace Z
open PySem PySem.Spec PyProof.Rows L2
/-! an except suite's or of two tests -/
section
variable {X : Cx} {i : Nat} {a : Addr}
theorem su_orT {ea eb : Expr} {v : V} {pos : Pos} (ha : PE X ea (tSV i a (.bl true))) (hb : PE X eb (tSV i a v)) : PE X (.BoolOp .Or [ea, eb] pos) (tSV i a (.bl true)) :=
  PE.imp (pe_or ha (pe_one hb)) fun σ H Q h => ⟨h.1, true, rfl, by simpa using h.2⟩
theorem su_orF {ea eb : Expr} {v : V} {pos : Pos} (ha : PE X ea (tSV i a (.bl false))) (hb : PE X eb (tSV i a v)) : PE X (.BoolOp .Or [ea, eb] pos) (tSV i a v) :=
  PE.imp (pe_or ha (pe_one hb)) fun σ H Q h => ⟨h.1, false, rfl, by simpa using h⟩
end
end Z

set_option maxRecDepth 100000
set_option maxHeartbeats 4000000
namespace Z
open PySem PySem.Spec PyProof.Rows L2
def topS (i : Nat) : Stmt := PySem.Challenge.pw_partsproved_k71_texts_of_proofs.main.body.getD i (.Pass ⟨0, 0, 0, 0⟩)
def C_COUNTS : List (Str × Int) := [("line", 0), ("fraction", 0), ("narrowed", 1), ("joined", 2), ("rest", 2), ("stretch", 2), ("same", 3), ("alike", 1), ("polynomials", 2), ("stretches", 2), ("through", 3), ("leaf", 1), ("swap", 2)]
def C_DEEP : D := (.int 60)
def C_DIGITS : D := (.str "0123456789")
def C_LETTERS : D := (.str "abcdefghijklmnopqrstuvwxyz")
abbrev N_is_int : List Str := ["value"]
theorem sc_is_int : FnScope N_is_int ["value"] (defScope (topS 5)) := ⟨rfl, rfl, rfl, by decide +kernel, rfl, by decide +kernel, by decide +kernel⟩
def B_is_int : PSF := (sRet (pAndV (pUn (oIsi "int") (pVar 0)) (pNotV (pUn (oIsi "bool") (pVar 0)))))
def F_is_int : Fn := pFn 1 B_is_int
abbrev N_common : List Str := ["a", "b"]
theorem sc_common : FnScope N_common ["a", "b"] (defScope (topS 6)) := ⟨rfl, rfl, rfl, by decide +kernel, rfl, by decide +kernel, by decide +kernel⟩
def B_common : PSF := (sSeq (sPar [0, 1] (pCons (pCall oAbs (pCons (pVar 0) pNil)) (pCons (pCall oAbs (pCons (pVar 1) pNil)) pNil)))
  (sSeq (sWhile (fun e _ => (evI e 1).natAbs + 1) (pTst (pBin oGt (pVar 1) (pC (.int 0)))) (sPar [0, 1] (pCons (pVar 1) (pCons (pBin oMod (pVar 0) (pVar 1)) pNil))))
  (sRet (pVar 0))))
def F_common : Fn := pFn 2 B_common
abbrev N_common_of : List Str := ["numbers", "found", "number"]
theorem sc_common_of : FnScope N_common_of ["numbers"] (defScope (topS 7)) := ⟨rfl, rfl, rfl, by decide +kernel, rfl, by decide +kernel, by decide +kernel⟩
def B_common_of : PSF := (sSeq (sSet 1 (pC (.int 0)))
  (sSeq (sFor (iSeq (pVar 0)) (gN 2) (sSet 1 (pApp F_common 2 (pCons (pVar 1) (pCons (pVar 2) pNil)))))
  (sRet (pVar 1))))
def F_common_of : Fn := pFn 3 B_common_of
abbrev N_is_fraction : List Str := ["value"]
theorem sc_is_fraction : FnScope N_is_fraction ["value"] (defScope (topS 10)) := ⟨rfl, rfl, rfl, by decide +kernel, rfl, by decide +kernel, by decide +kernel⟩
def B_is_fraction : PSF := (sSeq (sIf (pOrT (pNotT (pTru (pUn (oIsi "tuple") (pVar 0)))) (pOrT (pTst (pBin oNe (pCall oLen (pCons (pVar 0) pNil)) (pC (.int 2)))) (pOrT (pNotT (pTru (pApp F_is_int 1 (pCons (pBin oIx (pVar 0) (pC (.int 0))) pNil)))) (pNotT (pTru (pApp F_is_int 1 (pCons (pBin oIx (pVar 0) (pC (.int 1))) pNil))))))) (sRet (pC (.bl false))) sNop)
  (sRet (pAndV (pBin oGe (pBin oIx (pVar 0) (pC (.int 1))) (pC (.int 1))) (pBin oEq (pApp F_common 2 (pCons (pBin oIx (pVar 0) (pC (.int 0))) (pCons (pBin oIx (pVar 0) (pC (.int 1))) pNil))) (pC (.int 1))))))
def F_is_fraction : Fn := pFn 1 B_is_fraction
abbrev N_below : List Str := ["a", "b"]
theorem sc_below : FnScope N_below ["a", "b"] (defScope (topS 11)) := ⟨rfl, rfl, rfl, by decide +kernel, rfl, by decide +kernel, by decide +kernel⟩
def B_below : PSF := (sRet (pBin oLt (pBin oMul (pBin oIx (pVar 0) (pC (.int 0))) (pBin oIx (pVar 1) (pC (.int 1)))) (pBin oMul (pBin oIx (pVar 1) (pC (.int 0))) (pBin oIx (pVar 0) (pC (.int 1))))))
def F_below : Fn := pFn 2 B_below
abbrev N_read_whole : List Str := ["text", "body", "mark"]
theorem sc_read_whole : FnScope N_read_whole ["text"] (defScope (topS 12)) := ⟨rfl, rfl, rfl, by decide +kernel, rfl, by decide +kernel, by decide +kernel⟩
def B_read_whole : PSF := (sSeq (sSet 1 (pIf (pTst (pBin oEq (pSl (pVar 0) pNoPart (pPart (pC (.int 1)))) (pC (.str "-")))) (pSl (pVar 0) (pPart (pC (.int 1))) pNoPart) (pVar 0)))
  (sSeq (sIf (pOrT (pTst (pBin oEq (pVar 1) (pC (.str "")))) (pOrT (pTst (pBin oGt (pCall oLen (pCons (pVar 1) pNil)) (pC (.int 60)))) (pNotT (pTru (pCall oAll (pCons (pLc [2] (iSeq (pVar 1)) (.n 2) tYesF (pBin oIn (pVar 2) (pC C_DIGITS))) pNil)))))) (sRaise "BadText" (pVar 0)) sNop)
  (sSeq (sIf (pOrT (pTst (pBin oNe (pCall oStr (pCons (pCall oIntS (pCons (pVar 1) pNil)) pNil)) (pVar 1))) (pTst (pBin oEq (pVar 0) (pC (.str "-0"))))) (sRaise "BadText" (pVar 0)) sNop)
  (sRet (pCall oIntS (pCons (pVar 0) pNil))))))
def F_read_whole : Fn := pFn 3 B_read_whole
abbrev N_is_polynomial : List Str := ["value", "x"]
theorem sc_is_polynomial : FnScope N_is_polynomial ["value"] (defScope (topS 14)) := ⟨rfl, rfl, rfl, by decide +kernel, rfl, by decide +kernel, by decide +kernel⟩
def B_is_polynomial : PSF := (sSeq (sIf (pOrT (pNotT (pTru (pUn (oIsi "tuple") (pVar 0)))) (pNotT (pTru (pCall oAll (pCons (pLc [1] (iSeq (pVar 0)) (.n 1) tYesF (pApp F_is_int 1 (pCons (pVar 1) pNil))) pNil))))) (sRet (pC (.bl false))) sNop)
  (sRet (pOrV (pBin oEq (pCall oLen (pCons (pVar 0) pNil)) (pC (.int 0))) (pBin oNe (pBin oIx (pVar 0) (pUn oNeg (pC (.int 1)))) (pC (.int 0))))))
def F_is_polynomial : Fn := pFn 2 B_is_polynomial
abbrev N_content : List Str := ["f"]
theorem sc_content : FnScope N_content ["f"] (defScope (topS 15)) := ⟨rfl, rfl, rfl, by decide +kernel, rfl, by decide +kernel, by decide +kernel⟩
def B_content : PSF := (sRet (pApp F_common_of 1 (pCons (pVar 0) pNil)))
def F_content : Fn := pFn 1 B_content
abbrev N_is_plain : List Str := ["f"]
theorem sc_is_plain : FnScope N_is_plain ["f"] (defScope (topS 16)) := ⟨rfl, rfl, rfl, by decide +kernel, rfl, by decide +kernel, by decide +kernel⟩
def B_is_plain : PSF := (sRet (pAndV (pBin oGe (pCall oLen (pCons (pVar 0) pNil)) (pC (.int 2))) (pAndV (pBin oGt (pBin oIx (pVar 0) (pUn oNeg (pC (.int 1)))) (pC (.int 0))) (pBin oEq (pApp F_content 1 (pCons (pVar 0) pNil)) (pC (.int 1))))))
def F_is_plain : Fn := pFn 1 B_is_plain
abbrev N_is_name : List Str := ["value", "f", "a", "b"]
theorem sc_is_name : FnScope N_is_name ["value"] (defScope (topS 18)) := ⟨rfl, rfl, rfl, by decide +kernel, rfl, by decide +kernel, by decide +kernel⟩
def B_is_name : PSF := (sSeq (sIf (pOrT (pNotT (pTru (pUn (oIsi "tuple") (pVar 0)))) (pOrT (pTst (pBin oNe (pCall oLen (pCons (pVar 0) pNil)) (pC (.int 3)))) (pOrT (pNotT (pTru (pApp F_is_polynomial 1 (pCons (pBin oIx (pVar 0) (pC (.int 0))) pNil)))) (pNotT (pTru (pApp F_is_plain 1 (pCons (pBin oIx (pVar 0) (pC (.int 0))) pNil))))))) (sRet (pC (.bl false))) sNop)
  (sSeq (sAsg (gTp 3 (gsCons (gN 1) (gsCons (gN 2) (gsCons (gN 3) gsNil)))) (pVar 0))
  (sSeq (sIf (pOrT (pNotT (pTru (pApp F_is_fraction 1 (pCons (pVar 2) pNil)))) (pNotT (pTru (pApp F_is_fraction 1 (pCons (pVar 3) pNil))))) (sRet (pC (.bl false))) sNop)
  (sRet (pIf (pTst (pBin oEq (pCall oLen (pCons (pVar 1) pNil)) (pC (.int 2)))) (pAndV (pBin oEq (pVar 1) (pTup (pCons (pUn oNeg (pBin oIx (pVar 2) (pC (.int 0)))) (pCons (pBin oIx (pVar 2) (pC (.int 1))) pNil)))) (pBin oEq (pVar 2) (pVar 3))) (pApp F_below 2 (pCons (pVar 2) (pCons (pVar 3) pNil))))))))
def F_is_name : Fn := pFn 4 B_is_name
abbrev N_is_tree : List Str := ["value", "word", "rest"]
theorem sc_is_tree : FnScope N_is_tree ["value"] (defScope (topS 19)) := ⟨rfl, rfl, rfl, by decide +kernel, rfl, by decide +kernel, by decide +kernel⟩
def B_is_tree (rec : Fn) : PSF := (sSeq (sIf (pOrT (pNotT (pTru (pUn (oIsi "tuple") (pVar 0)))) (pOrT (pTst (pBin oLt (pCall oLen (pCons (pVar 0) pNil)) (pC (.int 2)))) (pNotT (pTru (pUn (oIsi "str") (pBin oIx (pVar 0) (pC (.int 0)))))))) (sRet (pC (.bl false))) sNop)
  (sSeq (sPar [1, 2] (pCons (pBin oIx (pVar 0) (pC (.int 0))) (pCons (pSl (pVar 0) (pPart (pC (.int 1))) pNoPart) pNil)))
  (sSeq (sIf (pTst (pBin oEq (pVar 1) (pC (.str "name")))) (sRet (pAndV (pBin oEq (pCall oLen (pCons (pVar 2) pNil)) (pC (.int 1))) (pApp F_is_name 1 (pCons (pBin oIx (pVar 2) (pC (.int 0))) pNil)))) sNop)
  (sSeq (sIf (pTst (pBin oIn (pVar 1) (pTup (pCons (pC (.str "plus")) (pCons (pC (.str "times")) pNil))))) (sRet (pAndV (pBin oEq (pCall oLen (pCons (pVar 2) pNil)) (pC (.int 2))) (pAndV (pApp rec 1 (pCons (pBin oIx (pVar 2) (pC (.int 0))) pNil)) (pApp rec 1 (pCons (pBin oIx (pVar 2) (pC (.int 1))) pNil))))) sNop)
  (sSeq (sIf (pTst (pBin oIn (pVar 1) (pTup (pCons (pC (.str "negative")) (pCons (pC (.str "inverse")) pNil))))) (sRet (pAndV (pBin oEq (pCall oLen (pCons (pVar 2) pNil)) (pC (.int 1))) (pApp rec 1 (pCons (pBin oIx (pVar 2) (pC (.int 0))) pNil)))) sNop)
  (sRet (pAndV (pBin oEq (pVar 1) (pC (.str "root"))) (pAndV (pBin oEq (pCall oLen (pCons (pVar 2) pNil)) (pC (.int 2))) (pAndV (pApp F_is_int 1 (pCons (pBin oIx (pVar 2) (pC (.int 0))) pNil)) (pAndV (pChain oLe oLe (pC (.int 2)) (pBin oIx (pVar 2) (pC (.int 0))) (pC (.int 6))) (pApp rec 1 (pCons (pBin oIx (pVar 2) (pC (.int 1))) pNil))))))))))))
def F_is_tree : Nat → Fn
  | 0 => fun _ _ => none
  | n + 1 => pFn 3 (B_is_tree (F_is_tree n))
abbrev N_is_parts : List Str := ["value", "pair", "keys", "g", "_", "k"]
theorem sc_is_parts : FnScope N_is_parts ["value"] (defScope (topS 20)) := ⟨rfl, rfl, rfl, by decide +kernel, rfl, by decide +kernel, by decide +kernel⟩
def B_is_parts : PSF := (sSeq (sIf (pNotT (pTru (pUn (oIsi "tuple") (pVar 0)))) (sRet (pC (.bl false))) sNop)
  (sSeq (sFor (iSeq (pVar 0)) (gN 1) (sSeq (sIf (pOrT (pNotT (pTru (pUn (oIsi "tuple") (pVar 1)))) (pOrT (pTst (pBin oNe (pCall oLen (pCons (pVar 1) pNil)) (pC (.int 2)))) (pOrT (pNotT (pTru (pApp F_is_polynomial 1 (pCons (pBin oIx (pVar 1) (pC (.int 0))) pNil)))) (pNotT (pTru (pApp F_is_plain 1 (pCons (pBin oIx (pVar 1) (pC (.int 0))) pNil))))))) (sRet (pC (.bl false))) sNop)
  (sIf (pOrT (pNotT (pTru (pApp F_is_int 1 (pCons (pBin oIx (pVar 1) (pC (.int 1))) pNil)))) (pTst (pBin oLt (pBin oIx (pVar 1) (pC (.int 1))) (pC (.int 1))))) (sRet (pC (.bl false))) sNop)))
  (sSeq (sSet 2 (pLc [3, 4] (iSeq (pVar 0)) (.t [3, 4]) tYesF (pTup (pCons (pCall oLen (pCons (pVar 3) pNil)) (pCons (pVar 3) pNil)))))
  (sRet (pCall oAll (pCons (pLc [5] (iR1 (pCons (pBin oSub2 (pCall oLen (pCons (pVar 2) pNil)) (pC (.int 1))) pNil)) (.n 5) tYesF (pBin oLtK (pBin oIx (pVar 2) (pVar 5)) (pBin oIx (pVar 2) (pBin oAdd (pVar 5) (pC (.int 1)))))) pNil))))))
def F_is_parts : Fn := pFn 6 B_is_parts
abbrev N_is_count : List Str := ["rest", "f", "a", "b", "many"]
theorem sc_is_count : FnScope N_is_count ["rest"] (defScope (topS 22)) := ⟨rfl, rfl, rfl, by decide +kernel, rfl, by decide +kernel, by decide +kernel⟩
def B_is_count : PSF := (sSeq (sAsg (gTp 4 (gsCons (gN 1) (gsCons (gN 2) (gsCons (gN 3) (gsCons (gN 4) gsNil))))) (pVar 0))
  (sSeq (sIf (pOrT (pNotT (pTru (pApp F_is_polynomial 1 (pCons (pVar 1) pNil)))) (pOrT (pNotT (pTru (pApp F_is_plain 1 (pCons (pVar 1) pNil)))) (pOrT (pNotT (pTru (pApp F_is_fraction 1 (pCons (pVar 2) pNil)))) (pOrT (pNotT (pTru (pApp F_is_fraction 1 (pCons (pVar 3) pNil)))) (pNotT (pTru (pApp F_below 2 (pCons (pVar 2) (pCons (pVar 3) pNil))))))))) (sRet (pC (.bl false))) sNop)
  (sRet (pAndV (pApp F_is_int 1 (pCons (pVar 4) pNil)) (pBin oGe (pVar 4) (pC (.int 0)))))))
def F_is_count : Fn := pFn 5 B_is_count
abbrev N_is_statement : List Str := ["value", "word", "rest"]
theorem sc_is_statement : FnScope N_is_statement ["value"] (defScope (topS 21)) := ⟨rfl, rfl, rfl, by decide +kernel, rfl, by decide +kernel, by decide +kernel⟩
def B_is_statement : PSF := (sSeq (sIf (pOrT (pNotT (pTru (pUn (oIsi "tuple") (pVar 0)))) (pOrT (pTst (pBin oLt (pCall oLen (pCons (pVar 0) pNil)) (pC (.int 2)))) (pNotT (pTru (pUn (oIsi "str") (pBin oIx (pVar 0) (pC (.int 0)))))))) (sRet (pC (.bl false))) sNop)
  (sSeq (sPar [1, 2] (pCons (pBin oIx (pVar 0) (pC (.int 0))) (pCons (pSl (pVar 0) (pPart (pC (.int 1))) pNoPart) pNil)))
  (sSeq (sIf (pTst (pBin oEq (pVar 1) (pC (.str "unpartable")))) (sRet (pAndV (pBin oEq (pCall oLen (pCons (pVar 2) pNil)) (pC (.int 1))) (pAndV (pApp F_is_polynomial 1 (pCons (pBin oIx (pVar 2) (pC (.int 0))) pNil)) (pApp F_is_plain 1 (pCons (pBin oIx (pVar 2) (pC (.int 0))) pNil))))) sNop)
  (sSeq (sIf (pTst (pBin oEq (pVar 1) (pC (.str "parts")))) (sRet (pAndV (pBin oEq (pCall oLen (pCons (pVar 2) pNil)) (pC (.int 3))) (pAndV (pApp F_is_polynomial 1 (pCons (pBin oIx (pVar 2) (pC (.int 0))) pNil)) (pAndV (pApp F_is_int 1 (pCons (pBin oIx (pVar 2) (pC (.int 1))) pNil)) (pApp F_is_parts 1 (pCons (pBin oIx (pVar 2) (pC (.int 2))) pNil)))))) sNop)
  (sSeq (sIf (pTst (pBin oEq (pVar 1) (pC (.str "count")))) (sRet (pAndV (pBin oEq (pCall oLen (pCons (pVar 2) pNil)) (pC (.int 4))) (pApp F_is_count 1 (pCons (pVar 2) pNil)))) sNop)
  (sSeq (sIf (pTst (pBin oEq (pVar 1) (pC (.str "named")))) (sRet (pAndV (pBin oEq (pCall oLen (pCons (pVar 2) pNil)) (pC (.int 1))) (pApp F_is_name 1 (pCons (pBin oIx (pVar 2) (pC (.int 0))) pNil)))) sNop)
  (sSeq (sIf (pTst (pBin oIn (pVar 1) (pTup (pCons (pC (.str "equal")) (pCons (pC (.str "apart")) (pCons (pC (.str "below")) pNil)))))) (sRet (pAndV (pBin oEq (pCall oLen (pCons (pVar 2) pNil)) (pC (.int 2))) (pAndV (pApp F_is_name 1 (pCons (pBin oIx (pVar 2) (pC (.int 0))) pNil)) (pApp F_is_name 1 (pCons (pBin oIx (pVar 2) (pC (.int 1))) pNil))))) sNop)
  (sRet (pAndV (pBin oEq (pVar 1) (pC (.str "is"))) (pAndV (pBin oEq (pCall oLen (pCons (pVar 2) pNil)) (pC (.int 2))) (pAndV (pApp F_is_name 1 (pCons (pBin oIx (pVar 2) (pC (.int 0))) pNil)) (pApp (F_is_tree (70)) 1 (pCons (pBin oIx (pVar 2) (pC (.int 1))) pNil)))))))))))))
def F_is_statement : Fn := pFn 3 B_is_statement
abbrev N_is_places : List Str := ["value", "many", "x"]
theorem sc_is_places : FnScope N_is_places ["value", "many"] (defScope (topS 23)) := ⟨rfl, rfl, rfl, by decide +kernel, rfl, by decide +kernel, by decide +kernel⟩
def B_is_places : PSF := (sSeq (sIf (pOrT (pNotT (pTru (pUn (oIsi "tuple") (pVar 0)))) (pAndT (pTst (pBin oIsNot (pVar 1) (pC .non))) (pTst (pBin oNe (pCall oLen (pCons (pVar 0) pNil)) (pVar 1))))) (sRet (pC (.bl false))) sNop)
  (sRet (pCall oAll (pCons (pLc [2] (iSeq (pVar 0)) (.n 2) tYesF (pAndV (pApp F_is_int 1 (pCons (pVar 2) pNil)) (pBin oGe (pVar 2) (pC (.int 0))))) pNil))))
def F_is_places : Fn := pFn 3 B_is_places
abbrev N_is_split : List Str := ["value", "g"]
theorem sc_is_split : FnScope N_is_split ["value"] (defScope (topS 26)) := ⟨rfl, rfl, rfl, by decide +kernel, rfl, by decide +kernel, by decide +kernel⟩
def B_is_split : PSF := (sSeq (sIf (pOrT (pNotT (pTru (pUn (oIsi "tuple") (pVar 0)))) (pOrT (pTst (pBin oNe (pCall oLen (pCons (pVar 0) pNil)) (pC (.int 2)))) (pOrT (pNotT (pTru (pApp F_is_int 1 (pCons (pBin oIx (pVar 0) (pC (.int 0))) pNil)))) (pNotT (pTru (pUn (oIsi "tuple") (pBin oIx (pVar 0) (pC (.int 1))))))))) (sRet (pC (.bl false))) sNop)
  (sRet (pCall oAll (pCons (pLc [1] (iSeq (pBin oIx (pVar 0) (pC (.int 1)))) (.n 1) tYesF (pAndV (pApp F_is_polynomial 1 (pCons (pVar 1) pNil)) (pBin oGt (pCall oLen (pCons (pVar 1) pNil)) (pC (.int 0))))) pNil))))
def F_is_split : Fn := pFn 2 B_is_split
abbrev N_is_move : List Str := ["value"]
theorem sc_is_move : FnScope N_is_move ["value"] (defScope (topS 27)) := ⟨rfl, rfl, rfl, by decide +kernel, rfl, by decide +kernel, by decide +kernel⟩
def B_is_move : PSF := (sSeq (sIf (pOrT (pNotT (pTru (pUn (oIsi "tuple") (pVar 0)))) (pOrT (pTst (pBin oEq (pCall oLen (pCons (pVar 0) pNil)) (pC (.int 0)))) (pNotT (pTru (pUn (oIsi "str") (pBin oIx (pVar 0) (pC (.int 0)))))))) (sRet (pC (.bl false))) sNop)
  (sSeq (sIf (pTst (pBin oEq (pVar 0) (pTup (pCons (pC (.str "mirror")) pNil)))) (sRet (pC (.bl true))) sNop)
  (sSeq (sIf (pTst (pBin oEq (pBin oIx (pVar 0) (pC (.int 0))) (pC (.str "shift")))) (sRet (pAndV (pBin oEq (pCall oLen (pCons (pVar 0) pNil)) (pC (.int 2))) (pApp F_is_int 1 (pCons (pBin oIx (pVar 0) (pC (.int 1))) pNil)))) sNop)
  (sRet (pAndV (pBin oEq (pBin oIx (pVar 0) (pC (.int 0))) (pC (.str "scale"))) (pAndV (pBin oEq (pCall oLen (pCons (pVar 0) pNil)) (pC (.int 2))) (pAndV (pApp F_is_fraction 1 (pCons (pBin oIx (pVar 0) (pC (.int 1))) pNil)) (pBin oNe (pBin oIx (pBin oIx (pVar 0) (pC (.int 1))) (pC (.int 0))) (pC (.int 0))))))))))
def F_is_move : Fn := pFn 1 B_is_move
abbrev N_is_made : List Str := ["rest"]
theorem sc_is_made : FnScope N_is_made ["rest"] (defScope (topS 28)) := ⟨rfl, rfl, rfl, by decide +kernel, rfl, by decide +kernel, by decide +kernel⟩
def B_is_made : PSF := (sSeq (sIf (pOrT (pTst (pBin oNe (pCall oLen (pCons (pVar 0) pNil)) (pC (.int 3)))) (pOrT (pNotT (pTru (pApp F_is_places 2 (pCons (pSl (pVar 0) pNoPart (pPart (pC (.int 1)))) (pCons (pC (.int 1)) pNil))))) (pNotT (pTru (pApp F_is_places 2 (pCons (pBin oIx (pVar 0) (pC (.int 1))) (pCons (pC .non) pNil))))))) (sRet (pC (.bl false))) sNop)
  (sRet (pOrV (pBin oIs (pBin oIx (pVar 0) (pC (.int 2))) (pC .non)) (pApp F_is_places 2 (pCons (pSl (pVar 0) (pPart (pC (.int 2))) pNoPart) (pCons (pC (.int 1)) pNil))))))
def F_is_made : Fn := pFn 1 B_is_made
abbrev N_is_reason : List Str := ["value", "word", "rest", "x"]
theorem sc_is_reason : FnScope N_is_reason ["value"] (defScope (topS 25)) := ⟨rfl, rfl, rfl, by decide +kernel, rfl, by decide +kernel, by decide +kernel⟩
def B_is_reason : PSF := (sSeq (sIf (pOrT (pNotT (pTru (pUn (oIsi "tuple") (pVar 0)))) (pOrT (pTst (pBin oEq (pCall oLen (pCons (pVar 0) pNil)) (pC (.int 0)))) (pNotT (pTru (pUn (oIsi "str") (pBin oIx (pVar 0) (pC (.int 0)))))))) (sRet (pC (.bl false))) sNop)
  (sSeq (sPar [1, 2] (pCons (pBin oIx (pVar 0) (pC (.int 0))) (pCons (pSl (pVar 0) (pPart (pC (.int 1))) pNoPart) pNil)))
  (sSeq (sIf (pTst (pInC C_COUNTS 1)) (sRet (pApp F_is_places 2 (pCons (pVar 2) (pCons (pIxC C_COUNTS 1) pNil)))) sNop)
  (sSeq (sIf (pTst (pBin oEq (pVar 1) (pC (.str "mod")))) (sRet (pAndV (pBin oEq (pCall oLen (pCons (pVar 2) pNil)) (pC (.int 1))) (pApp F_is_int 1 (pCons (pBin oIx (pVar 2) (pC (.int 0))) pNil)))) sNop)
  (sSeq (sIf (pTst (pBin oEq (pVar 1) (pC (.str "shift")))) (sRet (pAndV (pBin oEq (pCall oLen (pCons (pVar 2) pNil)) (pC (.int 2))) (pAndV (pApp F_is_int 1 (pCons (pBin oIx (pVar 2) (pC (.int 0))) pNil)) (pApp F_is_int 1 (pCons (pBin oIx (pVar 2) (pC (.int 1))) pNil))))) sNop)
  (sSeq (sIf (pTst (pBin oEq (pVar 1) (pC (.str "degrees")))) (sRet (pAndV (pBin oEq (pCall oLen (pCons (pVar 2) pNil)) (pC (.int 1))) (pAndV (pUn (oIsi "tuple") (pBin oIx (pVar 2) (pC (.int 0)))) (pCall oAll (pCons (pLc [3] (iSeq (pBin oIx (pVar 2) (pC (.int 0)))) (.n 3) tYesF (pApp F_is_split 1 (pCons (pVar 3) pNil))) pNil))))) sNop)
  (sSeq (sIf (pTst (pBin oEq (pVar 1) (pC (.str "lots")))) (sRet (pAndV (pBin oEq (pCall oLen (pCons (pVar 2) pNil)) (pC (.int 3))) (pAndV (pApp F_is_int 1 (pCons (pBin oIx (pVar 2) (pC (.int 1))) pNil)) (pAndV (pBin oGe (pBin oIx (pVar 2) (pC (.int 1))) (pC (.int 1))) (pApp F_is_split 1 (pCons (pTup (pCons (pBin oIx (pVar 2) (pC (.int 0))) (pCons (pBin oIx (pVar 2) (pC (.int 2))) pNil))) pNil)))))) sNop)
  (sSeq (sIf (pTst (pBin oEq (pVar 1) (pC (.str "moved")))) (sRet (pAndV (pBin oEq (pCall oLen (pCons (pVar 2) pNil)) (pC (.int 2))) (pAndV (pApp F_is_places 2 (pCons (pSl (pVar 2) pNoPart (pPart (pC (.int 1)))) (pCons (pC (.int 1)) pNil))) (pApp F_is_move 1 (pCons (pBin oIx (pVar 2) (pC (.int 1))) pNil))))) sNop)
  (sSeq (sIf (pTst (pBin oEq (pVar 1) (pC (.str "product")))) (sRet (pAndV (pBin oEq (pCall oLen (pCons (pVar 2) pNil)) (pC (.int 1))) (pApp F_is_places 2 (pCons (pBin oIx (pVar 2) (pC (.int 0))) (pCons (pC .non) pNil))))) sNop)
  (sSeq (sIf (pTst (pBin oEq (pVar 1) (pC (.str "signs")))) (sRet (pAndV (pBin oEq (pCall oLen (pCons (pVar 2) pNil)) (pC (.int 2))) (pAndV (pUn (oIsi "tuple") (pBin oIx (pVar 2) (pC (.int 0)))) (pUn (oIsi "tuple") (pBin oIx (pVar 2) (pC (.int 1))))))) sNop)
  (sRet (pAndV (pBin oEq (pVar 1) (pC (.str "made"))) (pApp F_is_made 1 (pCons (pVar 2) pNil))))))))))))))
def F_is_reason : Fn := pFn 4 B_is_reason
abbrev N_is_proof : List Str := ["value", "line"]
theorem sc_is_proof : FnScope N_is_proof ["value"] (defScope (topS 29)) := ⟨rfl, rfl, rfl, by decide +kernel, rfl, by decide +kernel, by decide +kernel⟩
def B_is_proof : PSF := (sSeq (sIf (pNotT (pTru (pUn (oIsi "tuple") (pVar 0)))) (sRet (pC (.bl false))) sNop)
  (sSeq (sFor (iSeq (pVar 0)) (gN 1) (sIf (pOrT (pNotT (pTru (pUn (oIsi "tuple") (pVar 1)))) (pOrT (pTst (pBin oNe (pCall oLen (pCons (pVar 1) pNil)) (pC (.int 2)))) (pOrT (pNotT (pTru (pApp F_is_statement 1 (pCons (pBin oIx (pVar 1) (pC (.int 0))) pNil)))) (pNotT (pTru (pApp F_is_reason 1 (pCons (pBin oIx (pVar 1) (pC (.int 1))) pNil))))))) (sRet (pC (.bl false))) sNop))
  (sRet (pC (.bl true)))))
def F_is_proof : Fn := pFn 2 B_is_proof
abbrev N_write_value : List Str := ["value", "part"]
theorem sc_write_value : FnScope N_write_value ["value"] (defScope (topS 33)) := ⟨rfl, rfl, rfl, by decide +kernel, rfl, by decide +kernel, by decide +kernel⟩
def B_write_value (rec : Fn) : PSF := (sSeq (sIf (pTst (pBin oIs (pVar 0) (pC .non))) (sRet (pC (.str "."))) sNop)
  (sSeq (sIf (pTru (pUn (oIsi "tuple") (pVar 0))) (sRet (pBin oAdd (pBin oAdd (pC (.str "(")) (pM1 oJoin (pC (.str " ")) (pLc [1] (iSeq (pVar 0)) (.n 1) tYesF (pApp rec 1 (pCons (pVar 1) pNil))))) (pC (.str ")")))) sNop)
  (sRet (pIf (pTru (pUn (oIsi "str") (pVar 0))) (pVar 0) (pCall oStr (pCons (pVar 0) pNil))))))
def F_write_value : Nat → Fn
  | 0 => fun _ _ => none
  | n + 1 => pFn 2 (B_write_value (F_write_value n))
abbrev N_signs_of : List Str := ["text"]
theorem sc_signs_of : FnScope N_signs_of ["text"] (defScope (topS 34)) := ⟨rfl, rfl, rfl, by decide +kernel, rfl, by decide +kernel, by decide +kernel⟩
def B_signs_of : PSF := (sRet (pM1 oSplit (pRepl ")" " ) " (pRepl "(" " ( " (pVar 0))) (pC (.str " "))))
def F_signs_of : Fn := pFn 1 B_signs_of
abbrev N_read_mark : List Str := ["mark", "letter"]
theorem sc_read_mark : FnScope N_read_mark ["mark"] (defScope (topS 36)) := ⟨rfl, rfl, rfl, by decide +kernel, rfl, by decide +kernel, by decide +kernel⟩
def B_read_mark : PSF := (sSeq (sIf (pTst (pBin oEq (pVar 0) (pC (.str ".")))) (sRet (pC .non)) sNop)
  (sSeq (sIf (pTru (pCall oAll (pCons (pLc [1] (iSeq (pVar 0)) (.n 1) tYesF (pBin oIn (pVar 1) (pC C_LETTERS))) pNil))) (sRet (pVar 0)) sNop)
  (sRet (pApp F_read_whole 1 (pCons (pVar 0) pNil)))))
def F_read_mark : Fn := pFn 2 B_read_mark
abbrev N_read_value : List Str := ["text", "stack", "mark", "row"]
theorem sc_read_value : FnScope N_read_value ["text"] (defScope (topS 35)) := ⟨rfl, rfl, rfl, by decide +kernel, rfl, by decide +kernel, by decide +kernel⟩
def B_read_value : PSF := (sSeq (sSet 1 (pLstM (pCons (pLstM pNil) pNil)))
  (sSeq (sFor (iSeq (pLc [2] (iSeq (pApp F_signs_of 1 (pCons (pVar 0) pNil))) (.n 2) (pTst (pBin oNe (pVar 2) (pC (.str "")))) (pVar 2))) (gN 2) (sSeq (sIf (pTst (pBin oEq (pVar 2) (pC (.str "(")))) (sExpr (pMth oApp (pVar 1) (pLstM pNil))) (sIf (pTst (pBin oEq (pVar 2) (pC (.str ")")))) (sSeq (sIf (pTst (pBin oLt (pCall oLen (pCons (pVar 1) pNil)) (pC (.int 2)))) (sRaise "BadText" (pVar 0)) sNop)
  (sSeq (sSet 3 (pCall oTuple (pCons (pMth0 oPop (pVar 1)) pNil)))
  (sExpr (pMth oApp (pBin oIx (pVar 1) (pUn oNeg (pC (.int 1)))) (pVar 3))))) (sExpr (pMth oApp (pBin oIx (pVar 1) (pUn oNeg (pC (.int 1)))) (pApp F_read_mark 1 (pCons (pVar 2) pNil))))))
  (sIf (pTst (pBin oGt (pCall oLen (pCons (pVar 1) pNil)) (pC C_DEEP))) (sRaise "BadText" (pVar 0)) sNop)))
  (sSeq (sIf (pOrT (pTst (pBin oNe (pCall oLen (pCons (pVar 1) pNil)) (pC (.int 1)))) (pOrT (pTst (pBin oNe (pCall oLen (pCons (pBin oIx (pVar 1) (pC (.int 0))) pNil)) (pC (.int 1)))) (pTst (pBin oNe (pApp (F_write_value (70)) 1 (pCons (pBin oIx (pBin oIx (pVar 1) (pC (.int 0))) (pC (.int 0))) pNil)) (pVar 0))))) (sRaise "BadText" (pVar 0)) sNop)
  (sRet (pBin oIx (pBin oIx (pVar 1) (pC (.int 0))) (pC (.int 0)))))))
def F_read_value : Fn := pFn 4 B_read_value
abbrev N_write_proof : List Str := ["proof", "statement", "reason"]
theorem sc_write_proof : FnScope N_write_proof ["proof"] (defScope (topS 37)) := ⟨rfl, rfl, rfl, by decide +kernel, rfl, by decide +kernel, by decide +kernel⟩
def B_write_proof : PSF := (sRet (pM1 oJoin (pC (.str "")) (pLc [1, 2] (iSeq (pVar 0)) (.t [1, 2]) tYesF (pBin oAdd (pBin oAdd (pBin oAdd (pApp (F_write_value (70)) 1 (pCons (pVar 1) pNil)) (pC (.str " by "))) (pApp (F_write_value (70)) 1 (pCons (pVar 2) pNil))) (pC (.str "\n"))))))
def F_write_proof : Fn := pFn 3 B_write_proof
abbrev N_read_proof : List Str := ["text", "lines", "found", "line", "statement", "by", "reason"]
theorem sc_read_proof : FnScope N_read_proof ["text"] (defScope (topS 38)) := ⟨rfl, rfl, rfl, by decide +kernel, rfl, by decide +kernel, by decide +kernel⟩
def B_read_proof : PSF := (sSeq (sSet 1 (pM1 oSplit (pVar 0) (pC (.str "\n"))))
  (sSeq (sIf (pTst (pBin oNe (pBin oIx (pVar 1) (pUn oNeg (pC (.int 1)))) (pC (.str "")))) (sRaise "BadText" (pVar 0)) sNop)
  (sSeq (sSet 2 (pLstM pNil))
  (sSeq (sFor (iSeq (pSl (pVar 1) pNoPart (pPart (pUn oNeg (pC (.int 1)))))) (gN 3) (sSeq (sAsg (gTp 3 (gsCons (gN 4) (gsCons (gN 5) (gsCons (gN 6) gsNil)))) (pM1 oPart (pVar 3) (pC (.str " by "))))
  (sSeq (sIf (pTst (pBin oEq (pVar 5) (pC (.str "")))) (sRaise "BadText" (pVar 3)) sNop)
  (sExpr (pMth oApp (pVar 2) (pTup (pCons (pApp F_read_value 1 (pCons (pVar 4) pNil)) (pCons (pApp F_read_value 1 (pCons (pVar 6) pNil)) pNil))))))))
  (sSeq (sIf (pNotT (pTru (pApp F_is_proof 1 (pCons (pCall oTuple (pCons (pVar 2) pNil)) pNil)))) (sRaise "NotAProof" (pVar 0)) sNop)
  (sRet (pCall oTuple (pCons (pVar 2) pNil))))))))
def F_read_proof : Fn := pFn 7 B_read_proof
abbrev N__law_cell : List Str := ["script", "k"]
theorem sc__law_cell : FnScope N__law_cell ["script", "k"] (defScope (topS 40)) := ⟨rfl, rfl, rfl, by decide +kernel, rfl, by decide +kernel, by decide +kernel⟩
def B__law_cell : PSF := (sSeq (sIf (pTst (pBin oLt (pVar 1) (pCall oLen (pCons (pVar 0) pNil)))) (sRet (pBin oIx (pVar 0) (pVar 1))) sNop)
  (sRet (pC (.int 0))))
def F__law_cell : Fn := pFn 2 B__law_cell
abbrev N__law_draws : List Str := ["cell", "amount", "rows", "left", "k", "blended"]
theorem sc__law_draws : FnScope N__law_draws ["cell", "amount"] (defScope (topS 41)) := ⟨rfl, rfl, rfl, by decide +kernel, rfl, by decide +kernel, by decide +kernel⟩
def B__law_draws : PSF := (sSeq (sSet 2 (pLstM pNil))
  (sSeq (sSet 3 (pVar 0))
  (sSeq (sFor (iR1 (pCons (pVar 1) pNil)) (gN 4) (sIf (pAndT (pTst (pBin oGe (pVar 0) (pBin oPow (pC (.int 10)) (pC (.int 18))))) (pTst (pBin oGt (pVar 3) (pC (.int 0))))) (sSeq (sExpr (pMth oApp (pVar 2) (pBin oMod (pCall oInt (pCons (pVar 3) pNil)) (pC (.int 4096)))))
  (sSet 3 (pBin oDiv (pVar 3) (pC (.int 4096))))) (sSeq (sSet 5 (pBin oMod (pCall oInt (pCons (pBin oAdd (pBin oMul (pVar 0) (pC (.int 48271))) (pBin oMul (pBin oAdd (pVar 4) (pC (.int 1))) (pC (.int 69621)))) pNil)) (pC (.int 2147483647))))
  (sSeq (sSet 5 (pBin oMod (pCall oInt (pCons (pBin oAdd (pBin oAdd (pBin oMul (pVar 5) (pVar 5)) (pBin oMul (pVar 5) (pC (.int 16807)))) (pBin oMul (pVar 4) (pC (.int 7919)))) pNil)) (pC (.int 2147483629))))
  (sSeq (sSet 5 (pBin oMod (pCall oInt (pCons (pBin oAdd (pBin oAdd (pBin oMul (pVar 5) (pVar 5)) (pVar 0)) (pBin oMul (pC (.int 13)) (pVar 4))) pNil)) (pC (.int 2147483587))))
  (sExpr (pMth oApp (pVar 2) (pBin oMod (pBin oDiv (pVar 5) (pC (.int 7))) (pC (.int 4096))))))))))
  (sRet (pFrz (pVar 2))))))
def F__law_draws : Fn := pFn 6 B__law_draws
abbrev N__law_kind : List Str := ["x"]
theorem sc__law_kind : FnScope N__law_kind ["x"] (defScope (topS 42)) := ⟨rfl, rfl, rfl, by decide +kernel, rfl, by decide +kernel, by decide +kernel⟩
def B__law_kind : PSF := (sSeq (sIf (pTru (pUn (oIsi "bool") (pVar 0))) (sRet (pC (.int 1))) sNop)
  (sSeq (sIf (pTru (pUn (oIsi "int") (pVar 0))) (sRet (pC (.int 2))) sNop)
  (sSeq (sIf (pTru (pUn (oIsi "str") (pVar 0))) (sRet (pC (.int 3))) sNop)
  (sSeq (sIf (pTru (pUn (oIsi "tuple") (pVar 0))) (sRet (pC (.int 4))) sNop)
  (sSeq (sIf (pTru (pUn (oIsi "list") (pVar 0))) (sRet (pC (.int 5))) sNop)
  (sSeq (sIf (pTru (pUn (oIsi "dict") (pVar 0))) (sRet (pC (.int 6))) sNop)
  (sRet (pC (.int 0)))))))))
def F__law_kind : Fn := pFn 1 B__law_kind
abbrev N__law_equal : List Str := ["x", "due", "key", "k", "other"]
theorem sc__law_equal : FnScope N__law_equal ["x", "due"] (defScope (topS 43)) := ⟨rfl, rfl, rfl, by decide +kernel, rfl, by decide +kernel, by decide +kernel⟩
def B__law_equal (rec : Fn) : PSF := (sSeq (sIf (pTst (pBin oNe (pApp F__law_kind 1 (pCons (pVar 0) pNil)) (pApp F__law_kind 1 (pCons (pVar 1) pNil)))) (sRet (pC (.bl false))) sNop)
  (sSeq (sIf (pOrT (pTru (pUn (oIsi "tuple") (pVar 1))) (pTru (pUn (oIsi "list") (pVar 1)))) (sSeq (sIf (pTst (pBin oNe (pCall oLen (pCons (pVar 0) pNil)) (pCall oLen (pCons (pVar 1) pNil)))) (sRet (pC (.bl false))) sNop)
  (sRet (pBin oEq (pCall oLen (pCons (pLc [3] (iR1 (pCons (pCall oLen (pCons (pVar 1) pNil)) pNil)) (.n 3) (pNotT (pTru (pApp rec 2 (pCons (pBin oIx (pVar 0) (pVar 3)) (pCons (pBin oIx (pVar 1) (pVar 3)) pNil))))) (pVar 3)) pNil)) (pC (.int 0))))) sNop)
  (sSeq (sIf (pTru (pUn (oIsi "dict") (pVar 1))) (sSeq (sIf (pTst (pBin oNe (pCall oLen (pCons (pVar 0) pNil)) (pCall oLen (pCons (pVar 1) pNil)))) (sRet (pC (.bl false))) sNop)
  (sSeq (sFor (iSeq (pVar 0)) (gN 2) (sSeq (sIf (pOrT (pTst (pBin oNotIn (pVar 2) (pVar 1))) (pNotT (pTru (pApp rec 2 (pCons (pBin oIx (pVar 0) (pVar 2)) (pCons (pBin oIx (pVar 1) (pVar 2)) pNil)))))) (sRet (pC (.bl false))) sNop)
  (sIf (pTst (pBin oEq (pCall oLen (pCons (pLc [4] (iSeq (pVar 1)) (.n 4) (pAndT (pTst (pBin oEq (pVar 4) (pVar 2))) (pTru (pApp rec 2 (pCons (pVar 2) (pCons (pVar 4) pNil))))) (pVar 4)) pNil)) (pC (.int 0)))) (sRet (pC (.bl false))) sNop)))
  (sRet (pC (.bl true))))) sNop)
  (sRet (pBin oEq (pVar 0) (pVar 1))))))
def F__law_equal : Nat → Fn
  | 0 => fun _ _ => none
  | n + 1 => pFn 5 (B__law_equal (F__law_equal n))
abbrev N__law_pool : List Str := ["script", "rows", "k"]
theorem sc__law_pool : FnScope N__law_pool ["script"] (defScope (topS 44)) := ⟨rfl, rfl, rfl, by decide +kernel, rfl, by decide +kernel, by decide +kernel⟩
def B__law_pool : PSF := (sSeq (sSet 1 (pLst pNil))
  (sSeq (sFor (iR1 (pCons (pCall oMin2 (pCons (pC (.int 4)) (pCons (pCall oMax2 (pCons (pC (.int 1)) (pCons (pCall oLen (pCons (pVar 0) pNil)) pNil))) pNil))) pNil)) (gN 2) (sSet 1 (pBin oAdd (pVar 1) (pApp F__law_draws 2 (pCons (pBin oAdd (pApp F__law_cell 2 (pCons (pVar 0) (pCons (pVar 2) pNil))) (pBin oMul (pC (.int 7)) (pVar 2))) (pCons (pC (.int 20)) pNil))))))
  (sRet (pLst (pCons (pVar 1) (pCons (pLstM (pCons (pC (.int 0)) pNil)) pNil))))))
def F__law_pool : Fn := pFn 3 B__law_pool
abbrev N__law_pick : List Str := ["pool", "amount", "at", "turn"]
theorem sc__law_pick : FnScope N__law_pick ["pool", "amount"] (defScope (topS 45)) := ⟨rfl, rfl, rfl, by decide +kernel, rfl, by decide +kernel, by decide +kernel⟩
def B__law_pick : PSF := (sSeq (sSet 2 (pBin oIx (pBin oIx (pVar 0) (pC (.int 1))) (pC (.int 0))))
  (sSeq (sPut (pBin oIx (pVar 0) (pC (.int 1))) (pC (.int 0)) (pBin oAdd (pVar 2) (pC (.int 1))))
  (sSeq (sSet 3 (pBin oDiv (pVar 2) (pCall oLen (pCons (pBin oIx (pVar 0) (pC (.int 0))) pNil))))
  (sRet (pBin oMod (pCall oInt (pCons (pBin oAdd (pBin oAdd (pBin oIx (pBin oIx (pVar 0) (pC (.int 0))) (pBin oMod (pVar 2) (pCall oLen (pCons (pBin oIx (pVar 0) (pC (.int 0))) pNil)))) (pBin oMul (pVar 3) (pC (.int 1009)))) (pBin oMul (pVar 3) (pVar 2))) pNil)) (pVar 1))))))
def F__law_pick : Fn := pFn 4 B__law_pick
abbrev N__law_m_gcd : List Str := ["a", "b"]
theorem sc__law_m_gcd : FnScope N__law_m_gcd ["a", "b"] (defScope (topS 46)) := ⟨rfl, rfl, rfl, by decide +kernel, rfl, by decide +kernel, by decide +kernel⟩
def B__law_m_gcd : PSF := (sSeq (sPar [0, 1] (pCons (pCall oAbs (pCons (pVar 0) pNil)) (pCons (pCall oAbs (pCons (pVar 1) pNil)) pNil)))
  (sSeq (sWhile (fun e _ => (evI e 1).natAbs + 1) (pTst (pBin oNe (pVar 1) (pC (.int 0)))) (sPar [0, 1] (pCons (pVar 1) (pCons (pBin oMod (pCall oInt (pCons (pVar 0) pNil)) (pVar 1)) pNil))))
  (sRet (pVar 0))))
def F__law_m_gcd : Fn := pFn 2 B__law_m_gcd
abbrev N__law_m_f : List Str := ["p", "q", "d"]
theorem sc__law_m_f : FnScope N__law_m_f ["p", "q"] (defScope (topS 47)) := ⟨rfl, rfl, rfl, by decide +kernel, rfl, by decide +kernel, by decide +kernel⟩
def B__law_m_f : PSF := (sSeq (sSet 2 (pApp F__law_m_gcd 2 (pCons (pVar 0) (pCons (pVar 1) pNil))))
  (sSeq (sIf (pTst (pBin oLt (pVar 1) (pC (.int 0)))) (sSet 2 (pUn oNeg (pVar 2))) sNop)
  (sRet (pTup (pCons (pBin oDiv (pVar 0) (pVar 2)) (pCons (pBin oDiv (pVar 1) (pVar 2)) pNil))))))
def F__law_m_f : Fn := pFn 3 B__law_m_f
abbrev N__law_m_drawn_f : List Str := ["pool"]
theorem sc__law_m_drawn_f : FnScope N__law_m_drawn_f ["pool"] (defScope (topS 48)) := ⟨rfl, rfl, rfl, by decide +kernel, rfl, by decide +kernel, by decide +kernel⟩
def B__law_m_drawn_f : PSF := (sRet (pApp F__law_m_f 2 (pCons (pBin oSub2 (pApp F__law_pick 2 (pCons (pVar 0) (pCons (pC (.int 13)) pNil))) (pC (.int 6))) (pCons (pBin oIx (pLst (pCons (pC (.int 1)) (pCons (pC (.int 1)) (pCons (pC (.int 2)) (pCons (pC (.int 3)) (pCons (pC (.int 4)) pNil)))))) (pApp F__law_pick 2 (pCons (pVar 0) (pCons (pC (.int 5)) pNil)))) pNil))))
def F__law_m_drawn_f : Fn := pFn 1 B__law_m_drawn_f
abbrev N__law_m_trim : List Str := ["numbers", "found"]
theorem sc__law_m_trim : FnScope N__law_m_trim ["numbers"] (defScope (topS 49)) := ⟨rfl, rfl, rfl, by decide +kernel, rfl, by decide +kernel, by decide +kernel⟩
def B__law_m_trim : PSF := (sSeq (sSet 1 (pCallM oListL (pCons (pVar 0) pNil)))
  (sSeq (sWhile fuel0 (pAndT (pTst (pBin oNe (pVar 1) (pLst pNil))) (pTst (pBin oEq (pBin oIx (pVar 1) (pUn oNeg (pC (.int 1)))) (pC (.int 0))))) (sExpr (pMth0 oPop (pVar 1))))
  (sRet (pCall oTuple (pCons (pVar 1) pNil)))))
def F__law_m_trim : Fn := pFn 2 B__law_m_trim
abbrev N__law_m_content : List Str := ["f", "found", "x"]
theorem sc__law_m_content : FnScope N__law_m_content ["f"] (defScope (topS 50)) := ⟨rfl, rfl, rfl, by decide +kernel, rfl, by decide +kernel, by decide +kernel⟩
def B__law_m_content : PSF := (sSeq (sSet 1 (pC (.int 0)))
  (sSeq (sFor (iSeq (pVar 0)) (gN 2) (sSet 1 (pApp F__law_m_gcd 2 (pCons (pVar 1) (pCons (pVar 2) pNil)))))
  (sRet (pVar 1))))
def F__law_m_content : Fn := pFn 3 B__law_m_content
abbrev N__law_m_plain : List Str := ["f", "size", "x"]
theorem sc__law_m_plain : FnScope N__law_m_plain ["f"] (defScope (topS 51)) := ⟨rfl, rfl, rfl, by decide +kernel, rfl, by decide +kernel, by decide +kernel⟩
def B__law_m_plain : PSF := (sSeq (sIf (pTst (pBin oEq (pVar 0) (pTup pNil))) (sRet (pTup (pCons (pC (.int 0)) (pCons (pTup pNil) pNil)))) sNop)
  (sSeq (sSet 1 (pApp F__law_m_content 1 (pCons (pVar 0) pNil)))
  (sSeq (sIf (pTst (pBin oLt (pBin oIx (pVar 0) (pUn oNeg (pC (.int 1)))) (pC (.int 0)))) (sSet 1 (pUn oNeg (pVar 1))) sNop)
  (sRet (pTup (pCons (pVar 1) (pCons (pCall oTuple (pCons (pLc [2] (iSeq (pVar 0)) (.n 2) tYesF (pBin oDiv (pVar 2) (pVar 1))) pNil)) pNil)))))))
def F__law_m_plain : Fn := pFn 3 B__law_m_plain
abbrev N__law_m_poly : List Str := ["pool", "degree", "size", "found", "k"]
theorem sc__law_m_poly : FnScope N__law_m_poly ["pool", "degree", "size"] (defScope (topS 52)) := ⟨rfl, rfl, rfl, by decide +kernel, rfl, by decide +kernel, by decide +kernel⟩
def B__law_m_poly : PSF := (sSeq (sSet 3 (pBin oAdd (pLc [4] (iR1 (pCons (pVar 1) pNil)) (.n 4) tYesF (pBin oSub2 (pApp F__law_pick 2 (pCons (pVar 0) (pCons (pBin oAdd (pBin oMul (pC (.int 2)) (pVar 2)) (pC (.int 1))) pNil))) (pVar 2))) (pLst (pCons (pBin oAdd (pC (.int 1)) (pApp F__law_pick 2 (pCons (pVar 0) (pCons (pVar 2) pNil)))) pNil))))
  (sRet (pApp F__law_m_trim 1 (pCons (pVar 3) pNil))))
def F__law_m_poly : Fn := pFn 5 B__law_m_poly
abbrev N__law_m_plain_one : List Str := ["pool", "degree", "size"]
theorem sc__law_m_plain_one : FnScope N__law_m_plain_one ["pool", "degree", "size"] (defScope (topS 53)) := ⟨rfl, rfl, rfl, by decide +kernel, rfl, by decide +kernel, by decide +kernel⟩
def B__law_m_plain_one : PSF := (sRet (pBin oIx (pApp F__law_m_plain 1 (pCons (pApp F__law_m_poly 3 (pCons (pVar 0) (pCons (pVar 1) (pCons (pVar 2) pNil)))) pNil)) (pC (.int 1))))
def F__law_m_plain_one : Fn := pFn 3 B__law_m_plain_one
abbrev N__law_m_root : List Str := ["n", "x"]
theorem sc__law_m_root : FnScope N__law_m_root ["n"] (defScope (topS 54)) := ⟨rfl, rfl, rfl, by decide +kernel, rfl, by decide +kernel, by decide +kernel⟩
def B__law_m_root : PSF := (sSeq (sSet 1 (pC (.int 0)))
  (sSeq (sWhile fuel0 (pTst (pBin oLe (pBin oMul (pBin oAdd (pVar 1) (pC (.int 1))) (pBin oAdd (pVar 1) (pC (.int 1)))) (pVar 0))) (sSet 1 (pBin oAdd (pVar 1) (pC (.int 1)))))
  (sRet (pVar 1))))
def F__law_m_root : Fn := pFn 2 B__law_m_root
abbrev N__law_m_ratio : List Str := ["number"]
theorem sc__law_m_ratio : FnScope N__law_m_ratio ["number"] (defScope (topS 55)) := ⟨rfl, rfl, rfl, by decide +kernel, rfl, by decide +kernel, by decide +kernel⟩
def B__law_m_ratio : PSF := (sRet (pTup (pCons (pTup (pCons (pUn oNeg (pBin oIx (pVar 0) (pC (.int 0)))) (pCons (pBin oIx (pVar 0) (pC (.int 1))) pNil))) (pCons (pVar 0) (pCons (pVar 0) pNil)))))
def F__law_m_ratio : Fn := pFn 1 B__law_m_ratio
abbrev N__law_m_square : List Str := ["n", "x"]
theorem sc__law_m_square : FnScope N__law_m_square ["n"] (defScope (topS 56)) := ⟨rfl, rfl, rfl, by decide +kernel, rfl, by decide +kernel, by decide +kernel⟩
def B__law_m_square : PSF := (sSeq (sSet 1 (pApp F__law_m_root 1 (pCons (pVar 0) pNil)))
  (sRet (pTup (pCons (pTup (pCons (pUn oNeg (pVar 0)) (pCons (pC (.int 0)) (pCons (pC (.int 1)) pNil)))) (pCons (pTup (pCons (pVar 1) (pCons (pC (.int 1)) pNil))) (pCons (pTup (pCons (pBin oAdd (pVar 1) (pC (.int 1))) (pCons (pC (.int 1)) pNil))) pNil))))))
def F__law_m_square : Fn := pFn 2 B__law_m_square
abbrev N__law_m_square_proof : List Str := ["n", "f", "a", "b", "p", "lines", "x", "y"]
theorem sc__law_m_square_proof : FnScope N__law_m_square_proof ["n"] (defScope (topS 57)) := ⟨rfl, rfl, rfl, by decide +kernel, rfl, by decide +kernel, by decide +kernel⟩
def B__law_m_square_proof : PSF := (sSeq (sAsg (gTp 3 (gsCons (gN 1) (gsCons (gN 2) (gsCons (gN 3) gsNil)))) (pApp F__law_m_square 1 (pCons (pVar 0) pNil)))
  (sSeq (sSet 4 (pBin oIx (pLc [6] (iR2 (pCons (pC (.int 2)) (pCons (pBin oAdd (pVar 0) (pC (.int 1))) pNil))) (.n 6) (pAndT (pTst (pBin oEq (pBin oMod (pCall oInt (pCons (pVar 0) pNil)) (pVar 6)) (pC (.int 0)))) (pAndT (pTst (pBin oNe (pBin oMod (pCall oInt (pCons (pVar 0) pNil)) (pBin oMul (pVar 6) (pVar 6))) (pC (.int 0)))) (pTst (pBin oEq (pCall oLen (pCons (pLc [7] (iR2 (pCons (pC (.int 2)) (pCons (pVar 6) pNil))) (.n 7) (pTst (pBin oEq (pBin oMod (pVar 6) (pVar 7)) (pC (.int 0)))) (pVar 7)) pNil)) (pC (.int 0)))))) (pVar 6)) (pC (.int 0))))
  (sSeq (sSet 5 (pTup (pCons (pTup (pCons (pTup (pCons (pC (.str "unpartable")) (pCons (pVar 1) pNil))) (pCons (pTup (pCons (pC (.str "shift")) (pCons (pC (.int 0)) (pCons (pVar 4) pNil)))) pNil))) (pCons (pTup (pCons (pTup (pCons (pC (.str "count")) (pCons (pVar 1) (pCons (pVar 2) (pCons (pVar 3) (pCons (pC (.int 1)) pNil)))))) (pCons (pTup (pCons (pC (.str "signs")) (pCons (pTup (pCons (pVar 1) (pCons (pTup (pCons (pC (.int 0)) (pCons (pC (.int 1)) pNil))) (pCons (pTup (pCons (pC (.int 1)) pNil)) pNil)))) (pCons (pTup (pCons (pTup (pCons (pC (.int 1)) (pCons (pTup (pCons (pC (.int 0)) (pCons (pC (.int 1)) pNil))) (pCons (pVar 0) pNil)))) pNil)) pNil)))) pNil))) pNil))))
  (sRet (pBin oAdd (pVar 5) (pTup (pCons (pTup (pCons (pTup (pCons (pC (.str "named")) (pCons (pTup (pCons (pVar 1) (pCons (pVar 2) (pCons (pVar 3) pNil)))) pNil))) (pCons (pTup (pCons (pC (.str "stretch")) (pCons (pC (.int 0)) (pCons (pC (.int 1)) pNil)))) pNil))) pNil)))))))
def F__law_m_square_proof : Fn := pFn 8 B__law_m_square_proof
abbrev N__law_m_text : List Str := ["value", "x"]
theorem sc__law_m_text : FnScope N__law_m_text ["value"] (defScope (topS 58)) := ⟨rfl, rfl, rfl, by decide +kernel, rfl, by decide +kernel, by decide +kernel⟩
def B__law_m_text (rec : Fn) : PSF := (sSeq (sIf (pTst (pBin oIs (pVar 0) (pC .non))) (sRet (pC (.str "."))) sNop)
  (sSeq (sIf (pTru (pUn (oIsi "tuple") (pVar 0))) (sRet (pBin oAdd (pBin oAdd (pC (.str "(")) (pM1 oJoin (pC (.str " ")) (pLc [1] (iSeq (pVar 0)) (.n 1) tYesF (pApp rec 1 (pCons (pVar 1) pNil))))) (pC (.str ")")))) sNop)
  (sRet (pCall oStrS (pCons (pVar 0) pNil)))))
def F__law_m_text : Nat → Fn
  | 0 => fun _ _ => none
  | n + 1 => pFn 2 (B__law_m_text (F__law_m_text n))
abbrev N__law_m_proof_text : List Str := ["proof", "one", "two"]
theorem sc__law_m_proof_text : FnScope N__law_m_proof_text ["proof"] (defScope (topS 59)) := ⟨rfl, rfl, rfl, by decide +kernel, rfl, by decide +kernel, by decide +kernel⟩
def B__law_m_proof_text : PSF := (sRet (pM1 oJoin (pC (.str "")) (pLc [1, 2] (iSeq (pVar 0)) (.t [1, 2]) tYesF (pBin oAdd (pBin oAdd (pBin oAdd (pApp (F__law_m_text (70)) 1 (pCons (pVar 1) pNil)) (pC (.str " by "))) (pApp (F__law_m_text (70)) 1 (pCons (pVar 2) pNil))) (pC (.str "\n"))))))
def F__law_m_proof_text : Fn := pFn 3 B__law_m_proof_text
abbrev N__law_m_read : List Str := ["text", "e"]
theorem sc__law_m_read : FnScope N__law_m_read ["text"] (defScope (topS 60)) := ⟨rfl, rfl, rfl, by decide +kernel, rfl, by decide +kernel, by decide +kernel⟩
def B__law_m_read : PSF := (sTry [("BadText", [.str "bad", .bl true]), ("NotAProof", [.str "bad", .bl true])] (sRet (pLst (pCons (pC (.str "read")) (pCons (pApp F_read_proof 1 (pCons (pVar 0) pNil)) pNil)))))
def F__law_m_read : Fn := pFn 2 B__law_m_read
abbrev N_law : List Str := ["script", "pool", "lines", "x", "y", "f", "more", "proof", "k", "text", "at", "sign", "other", "told", "asked_rows"]
theorem sc_law : FnScope N_law ["script"] (defScope (topS 61)) := ⟨rfl, rfl, rfl, by decide +kernel, rfl, by decide +kernel, by decide +kernel⟩
def B_law : PSF := (sSeq (sSet 1 (pApp F__law_pool 1 (pCons (pVar 0) pNil)))
  (sSeq (sSet 2 (pApp F__law_m_square_proof 1 (pCons (pBin oIx (pLst (pCons (pC (.int 2)) (pCons (pC (.int 3)) (pCons (pC (.int 5)) (pCons (pC (.int 6)) (pCons (pC (.int 7)) pNil)))))) (pApp F__law_pick 2 (pCons (pVar 1) (pCons (pC (.int 5)) pNil)))) pNil)))
  (sSeq (sPar [3, 4] (pCons (pBin oIx (pBin oIx (pBin oIx (pVar 2) (pC (.int 2))) (pC (.int 0))) (pC (.int 1))) (pCons (pApp F__law_m_ratio 1 (pCons (pApp F__law_m_drawn_f 1 (pCons (pVar 1) pNil)) pNil)) pNil)))
  (sSeq (sSet 5 (pApp F__law_m_plain_one 3 (pCons (pVar 1) (pCons (pC (.int 2)) (pCons (pC (.int 9)) pNil)))))
  (sSeq (sSet 6 (pLst (pCons (pTup (pCons (pTup (pCons (pC (.str "named")) (pCons (pVar 4) pNil))) (pCons (pTup (pCons (pC (.str "fraction")) pNil)) pNil))) (pCons (pTup (pCons (pTup (pCons (pC (.str "is")) (pCons (pVar 3) (pCons (pTup (pCons (pC (.str "root")) (pCons (pC (.int 2)) (pCons (pTup (pCons (pC (.str "name")) (pCons (pVar 4) pNil))) pNil)))) pNil)))) (pCons (pTup (pCons (pC (.str "made")) (pCons (pC (.int 2)) (pCons (pTup (pCons (pC (.int 3)) pNil)) (pCons (pC .non) pNil))))) pNil))) (pCons (pTup (pCons (pTup (pCons (pC (.str "unpartable")) (pCons (pVar 5) pNil))) (pCons (pTup (pCons (pC (.str "lots")) (pCons (pC (.int 3)) (pCons (pC (.int 2)) (pCons (pTup (pCons (pVar 5) (pCons (pTup (pCons (pC (.int 1)) (pCons (pC (.int 1)) pNil))) pNil))) pNil))))) pNil))) pNil)))))
  (sSeq (sSet 6 (pBin oAdd (pVar 6) (pLst (pCons (pTup (pCons (pTup (pCons (pC (.str "parts")) (pCons (pVar 5) (pCons (pUn oNeg (pC (.int 1))) (pCons (pTup (pCons (pTup (pCons (pVar 5) (pCons (pC (.int 2)) pNil))) pNil)) pNil))))) (pCons (pTup (pCons (pC (.str "product")) (pCons (pTup (pCons (pC (.int 0)) pNil)) pNil))) pNil))) (pCons (pTup (pCons (pTup (pCons (pC (.str "equal")) (pCons (pVar 3) (pCons (pVar 4) pNil)))) (pCons (pTup (pCons (pC (.str "same")) (pCons (pC (.int 2)) (pCons (pC (.int 3)) (pCons (pC (.int 1)) pNil))))) pNil))) (pCons (pTup (pCons (pTup (pCons (pC (.str "unpartable")) (pCons (pVar 5) pNil))) (pCons (pTup (pCons (pC (.str "moved")) (pCons (pC (.int 0)) (pCons (pTup (pCons (pC (.str "scale")) (pCons (pTup (pCons (pUn oNeg (pC (.int 1))) (pCons (pC (.int 2)) pNil))) pNil))) pNil)))) pNil))) pNil))))))
  (sSeq (sSet 6 (pBin oAdd (pVar 6) (pLst (pCons (pTup (pCons (pBin oAdd (pBin oAdd (pTup (pCons (pC (.str "count")) pNil)) (pVar 3)) (pTup (pCons (pC (.int 1)) pNil))) (pCons (pTup (pCons (pC (.str "joined")) (pCons (pC (.int 0)) (pCons (pC (.int 1)) pNil)))) pNil))) pNil))))
  (sSeq (sSet 7 (pSl (pVar 2) pNoPart (pPart (pApp F__law_pick 2 (pCons (pVar 1) (pCons (pC (.int 4)) pNil))))))
  (sSeq (sFor (iR1 (pCons (pApp F__law_pick 2 (pCons (pVar 1) (pCons (pC (.int 4)) pNil))) pNil)) (gN 8) (sSet 7 (pBin oAdd (pVar 7) (pTup (pCons (pBin oIx (pVar 6) (pApp F__law_pick 2 (pCons (pVar 1) (pCons (pCall oLen (pCons (pVar 6) pNil)) pNil)))) pNil)))))
  (sSeq (sSet 9 (pApp F__law_m_proof_text 1 (pCons (pVar 7) pNil)))
  (sSeq (sIf (pOrT (pTst (pBin oNe (pApp F_write_proof 1 (pCons (pVar 7) pNil)) (pVar 9))) (pNotT (pTru (pApp (F__law_equal (20)) 2 (pCons (pApp F__law_m_read 1 (pCons (pVar 9) pNil)) (pCons (pLst (pCons (pC (.str "read")) (pCons (pVar 7) pNil))) pNil)))))) (sRet (pC (.bl false))) sNop)
  (sSeq (sFor (iR1 (pCons (pC (.int 10)) pNil)) (gN 8) (sSeq (sSet 10 (pApp F__law_pick 2 (pCons (pVar 1) (pCons (pBin oAdd (pCall oLen (pCons (pVar 9) pNil)) (pC (.int 1))) pNil))))
  (sSeq (sSet 11 (pBin oIx (pLst (pCons (pC (.str "(")) (pCons (pC (.str ")")) (pCons (pC (.str " ")) (pCons (pC (.str "0")) (pCons (pC (.str "7")) (pCons (pC (.str "-")) (pCons (pC (.str "a")) (pCons (pC (.str ".")) (pCons (pC (.str "by")) (pCons (pC (.str "\n")) pNil))))))))))) (pApp F__law_pick 2 (pCons (pVar 1) (pCons (pC (.int 10)) pNil)))))
  (sFor (iSeq (pTup (pCons (pBin oAdd (pBin oAdd (pSl (pVar 9) pNoPart (pPart (pVar 10))) (pVar 11)) (pSl (pVar 9) (pPart (pVar 10)) pNoPart)) (pCons (pBin oAdd (pBin oAdd (pSl (pVar 9) pNoPart (pPart (pVar 10))) (pVar 11)) (pSl (pVar 9) (pPart (pBin oAdd (pVar 10) (pC (.int 1)))) pNoPart)) (pCons (pBin oAdd (pSl (pVar 9) pNoPart (pPart (pVar 10))) (pSl (pVar 9) (pPart (pBin oAdd (pVar 10) (pC (.int 1)))) pNoPart)) pNil))))) (gN 12) (sSeq (sSet 13 (pApp F__law_m_read 1 (pCons (pVar 12) pNil)))
  (sIf (pOrT (pAndT (pTst (pBin oEq (pBin oIx (pVar 13) (pC (.int 0))) (pC (.str "read")))) (pOrT (pTst (pBin oNe (pApp F__law_m_proof_text 1 (pCons (pBin oIx (pVar 13) (pC (.int 1))) pNil)) (pVar 12))) (pNotT (pTru (pApp F_is_proof 1 (pCons (pBin oIx (pVar 13) (pC (.int 1))) pNil)))))) (pAndT (pTst (pBin oEq (pBin oIx (pVar 13) (pC (.int 0))) (pC (.str "bad")))) (pTst (pBin oIsNot (pBin oIx (pVar 13) (pC (.int 1))) (pC (.bl true)))))) (sRet (pC (.bl false))) sNop))))))
  (sSeq (sSet 14 (pLst (pCons (pC (.str "\n")) (pCons (pC (.str "1 by 2\n")) (pCons (pC (.str "(unpartable (0 1)) by (line)")) (pCons (pC (.str "(unpartable (0 1)) (line)\n")) (pCons (pC (.str "(unpartable (0 2)) by (line)\n")) pNil)))))))
  (sSeq (sSet 14 (pBin oAdd (pVar 14) (pLst (pCons (pC (.str "(unpartable (0 1)) by (lines)\n")) (pCons (pC (.str " by \n")) (pCons (pC (.str "(unpartable (0 1)) by (line) by (line)\n")) pNil))))))
  (sSeq (sFor (iSeq (pVar 14)) (gN 12) (sIf (pTst (pBin oNe (pApp F__law_m_read 1 (pCons (pVar 12) pNil)) (pLst (pCons (pC (.str "bad")) (pCons (pC (.bl true)) pNil))))) (sRet (pC (.bl false))) sNop))
  (sRet (pAndV (pBin oEq (pApp F__law_m_read 1 (pCons (pC (.str "")) pNil)) (pLst (pCons (pC (.str "read")) (pCons (pTup pNil) pNil)))) (pBin oEq (pApp F__law_m_read 1 (pCons (pC (.str "(unpartable (0 1)) by (line)\n")) pNil)) (pLst (pCons (pC (.str "read")) (pCons (pTup (pCons (pTup (pCons (pTup (pCons (pC (.str "unpartable")) (pCons (pTup (pCons (pC (.int 0)) (pCons (pC (.int 1)) pNil))) pNil))) (pCons (pTup (pCons (pC (.str "line")) pNil)) pNil))) pNil)) pNil)))))))))))))))))))))
def F_law : Fn := pFn 15 B_law
end Z

set_option maxRecDepth 100000
set_option maxHeartbeats 4000000
namespace Z
open PySem PySem.Spec PyProof.Rows L2
structure Txt (w : World) (K : PySem.W.Frag) (mg : Str → Option Value) : Prop where
  d_is_int : Txt1 K mg "is_int" (topS 5)
  d_common : Txt1 K mg "common" (topS 6)
  d_common_of : Txt1 K mg "common_of" (topS 7)
  d_is_fraction : Txt1 K mg "is_fraction" (topS 10)
  d_below : Txt1 K mg "below" (topS 11)
  d_read_whole : Txt1 K mg "read_whole" (topS 12)
  d_is_polynomial : Txt1 K mg "is_polynomial" (topS 14)
  d_content : Txt1 K mg "content" (topS 15)
  d_is_plain : Txt1 K mg "is_plain" (topS 16)
  d_is_name : Txt1 K mg "is_name" (topS 18)
  d_is_tree : Txt1 K mg "is_tree" (topS 19)
  d_is_parts : Txt1 K mg "is_parts" (topS 20)
  d_is_count : Txt1 K mg "is_count" (topS 22)
  d_is_statement : Txt1 K mg "is_statement" (topS 21)
  d_is_places : Txt1 K mg "is_places" (topS 23)
  d_is_split : Txt1 K mg "is_split" (topS 26)
  d_is_move : Txt1 K mg "is_move" (topS 27)
  d_is_made : Txt1 K mg "is_made" (topS 28)
  d_is_reason : Txt1 K mg "is_reason" (topS 25)
  d_is_proof : Txt1 K mg "is_proof" (topS 29)
  d_write_value : Txt1 K mg "write_value" (topS 33)
  d_signs_of : Txt1 K mg "signs_of" (topS 34)
  d_read_mark : Txt1 K mg "read_mark" (topS 36)
  d_read_value : Txt1 K mg "read_value" (topS 35)
  d_write_proof : Txt1 K mg "write_proof" (topS 37)
  d_read_proof : Txt1 K mg "read_proof" (topS 38)
  d__law_cell : Txt1 K mg "_law_cell" (topS 40)
  d__law_draws : Txt1 K mg "_law_draws" (topS 41)
  d__law_kind : Txt1 K mg "_law_kind" (topS 42)
  d__law_equal : Txt1 K mg "_law_equal" (topS 43)
  d__law_pool : Txt1 K mg "_law_pool" (topS 44)
  d__law_pick : Txt1 K mg "_law_pick" (topS 45)
  d__law_m_gcd : Txt1 K mg "_law_m_gcd" (topS 46)
  d__law_m_f : Txt1 K mg "_law_m_f" (topS 47)
  d__law_m_drawn_f : Txt1 K mg "_law_m_drawn_f" (topS 48)
  d__law_m_trim : Txt1 K mg "_law_m_trim" (topS 49)
  d__law_m_content : Txt1 K mg "_law_m_content" (topS 50)
  d__law_m_plain : Txt1 K mg "_law_m_plain" (topS 51)
  d__law_m_poly : Txt1 K mg "_law_m_poly" (topS 52)
  d__law_m_plain_one : Txt1 K mg "_law_m_plain_one" (topS 53)
  d__law_m_root : Txt1 K mg "_law_m_root" (topS 54)
  d__law_m_ratio : Txt1 K mg "_law_m_ratio" (topS 55)
  d__law_m_square : Txt1 K mg "_law_m_square" (topS 56)
  d__law_m_square_proof : Txt1 K mg "_law_m_square_proof" (topS 57)
  d__law_m_text : Txt1 K mg "_law_m_text" (topS 58)
  d__law_m_proof_text : Txt1 K mg "_law_m_proof_text" (topS 59)
  d__law_m_read : Txt1 K mg "_law_m_read" (topS 60)
  d_law : Txt1 K mg "law" (topS 61)
  z_abs : mg "abs" = none
  z_all : mg "all" = none
  z_bool : mg "bool" = none
  z_dict : mg "dict" = none
  z_int : mg "int" = none
  z_isinstance : mg "isinstance" = none
  z_len : mg "len" = none
  z_list : mg "list" = none
  z_max : mg "max" = none
  z_min : mg "min" = none
  z_range : mg "range" = none
  z_str : mg "str" = none
  z_tuple : mg "tuple" = none
  c_COUNTS : ConD K w mg "COUNTS" C_COUNTS
  c_DEEP : Con1 K mg "DEEP" C_DEEP
  c_DIGITS : Con1 K mg "DIGITS" C_DIGITS
  c_LETTERS : Con1 K mg "LETTERS" C_LETTERS
  e_BadText : ExcT K mg "BadText"
  e_NotAProof : ExcT K mg "NotAProof"
  m_BadText_PartsError : ExcM K mg "BadText" "PartsError" true
  m_NotAProof_PartsError : ExcM K mg "NotAProof" "PartsError" true
  q_BadText_BadText : ExcQ K mg "BadText" "BadText" true
  q_BadText_NotAProof : ExcQ K mg "BadText" "NotAProof" false
  q_NotAProof_BadText : ExcQ K mg "NotAProof" "BadText" false
  q_NotAProof_NotAProof : ExcQ K mg "NotAProof" "NotAProof" true
  p_PartsError : ∃ P, mg "PartsError" = some (.ref P)
section
variable {P : Program} {w : World} {K : PySem.W.Frag} {mg : Str → Option Value} {base : Heap}
theorem ok_is_int (T : Txt w K mg) : FnA P w K mg base "is_int" 1 1 F_is_int :=
  fn_ok (k := 0) (b := B_is_int) (N := N_is_int) T.d_is_int sc_is_int (fun _ _ _ _ _ _ us hl => match us, hl with | [_], _ => rfl) fun f cdv A outer s H E hr =>
      (mss_one (ms_ret (me_and (me_isi (T := "int") (by decide) (by rfl) T.z_isinstance (by rfl) T.z_int (by decide +kernel) (me_var 0)) (me_one (me_not (me_isi (T := "bool") (by decide) (by rfl) T.z_isinstance (by rfl) T.z_bool (by decide +kernel) (me_var 0)))))))
theorem ok_common (T : Txt w K mg) : FnA P w K mg base "common" 1 2 F_common :=
  fn_ok (k := 0) (b := B_common) (N := N_common) T.d_common sc_common (fun _ _ _ _ _ _ us hl => match us, hl with | [_, _], _ => rfl) fun f cdv A outer s H E hr =>
      (mss_cons (ms_par2 (i := 0) (j := 1) rfl sc_common.nd rfl rfl (by decide) rfl rfl (ma_cons (me_callB cr_oAbs (by rfl) T.z_abs (by decide +kernel) (ma_cons (me_var 0) ma_nil)) (ma_cons (me_callB cr_oAbs (by rfl) T.z_abs (by decide +kernel) (ma_cons (me_var 1) ma_nil)) ma_nil)) rfl)
      (mss_cons (ms_while (fun e _ => (evI e 1).natAbs + 1) (passes_of rfl) (mt_cmp op_oGt (me_var 1) me_int (nomark _)) (mss_one (ms_par2 (i := 0) (j := 1) rfl sc_common.nd rfl rfl (by decide) rfl rfl (ma_cons (me_var 1) (ma_cons (me_bin op_oMod (me_var 0) (me_var 1)) ma_nil)) rfl)))
      (mss_one (ms_ret (me_var 0)))))
theorem ok_common_of (T : Txt w K mg) : FnA P w K mg base "common_of" 2 1 F_common_of :=
  fn_ok (k := 1) (b := B_common_of) (N := N_common_of) T.d_common_of sc_common_of (fun _ _ _ _ _ _ us hl => match us, hl with | [_], _ => rfl) fun f cdv A outer s H E hr =>
      (mss_cons (ms_set (i := 1) sc_common_of.nd rfl (by first | exact Or.inl rfl | exact Or.inr rfl) me_int)
      (mss_cons (ms_for (passes_of rfl) rfl (mi_seq (me_var 0)) (mg_name (i := 2) sc_common_of.nd rfl (by first | exact Or.inl rfl | exact Or.inr rfl)) (mss_one (ms_set (i := 1) sc_common_of.nd rfl (by first | exact Or.inl rfl | exact Or.inr rfl) (me_call (ok_common T) hr (by decide) (passAt tkD) (by rfl) (ma_cons (me_var 1) (ma_cons (me_var 2) ma_nil))))))
      (mss_one (ms_ret (me_var 1)))))
theorem ok_is_fraction (T : Txt w K mg) : FnA P w K mg base "is_fraction" 2 1 F_is_fraction :=
  fn_ok (k := 1) (b := B_is_fraction) (N := N_is_fraction) T.d_is_fraction sc_is_fraction (fun _ _ _ _ _ _ us hl => match us, hl with | [_], _ => rfl) fun f cdv A outer s H E hr =>
      (mss_cons (ms_if (mt_bool (mw_or (mt_not (mt_tru (me_isi (T := "tuple") (by decide) (by rfl) T.z_isinstance (by rfl) T.z_tuple (by decide +kernel) (me_var 0)))) (mw_or (mt_cmp (op_oNe hr.units) (me_callB cr_oLen (by rfl) T.z_len (by decide +kernel) (ma_cons (me_var 0) ma_nil)) me_int (nomark _)) (mw_or (mt_not (mt_tru (me_call (ok_is_int T) hr (by decide) (passAt tkD) (by rfl) (ma_cons (me_ix (me_var 0) me_int) ma_nil)))) (mw_or1 (mt_not (mt_tru (me_call (ok_is_int T) hr (by decide) (passAt tkD) (by rfl) (ma_cons (me_ix (me_var 0) me_int) ma_nil))))))))) (mss_one (ms_ret me_bl)) mss_nil)
      (mss_one (ms_ret (me_and (me_cmp op_oGe (me_ix (me_var 0) me_int) me_int (nomark _)) (me_one (me_cmp (op_oEq hr.units) (me_call (ok_common T) hr (by decide) (passAt tkD) (by rfl) (ma_cons (me_ix (me_var 0) me_int) (ma_cons (me_ix (me_var 0) me_int) ma_nil))) me_int (nomark _)))))))
theorem ok_below (T : Txt w K mg) : FnA P w K mg base "below" 1 2 F_below :=
  fn_ok (k := 0) (b := B_below) (N := N_below) T.d_below sc_below (fun _ _ _ _ _ _ us hl => match us, hl with | [_, _], _ => rfl) fun f cdv A outer s H E hr =>
      (mss_one (ms_ret (me_cmp (op_oLt hr.units0) (me_bin op_oMul (me_ix (me_var 0) me_int) (me_ix (me_var 1) me_int)) (me_bin op_oMul (me_ix (me_var 1) me_int) (me_ix (me_var 0) me_int)) (nomark _))))
theorem ok_read_whole (T : Txt w K mg) : FnA P w K mg base "read_whole" 1 1 F_read_whole :=
  fn_ok (k := 0) (b := B_read_whole) (N := N_read_whole) T.d_read_whole sc_read_whole (fun _ _ _ _ _ _ us hl => match us, hl with | [_], _ => rfl) fun f cdv A outer s H E hr =>
      (mss_cons (ms_set (i := 1) sc_read_whole.nd rfl (by first | exact Or.inl rfl | exact Or.inr rfl) (me_if (mt_cmp (op_oEq hr.units) (me_sl (me_var 0) mo_none (mo_some me_int)) me_str (nomark _)) (me_sl (me_var 0) (mo_some me_int) mo_none) (me_var 0)))
      (mss_cons (ms_if (mt_bool (mw_or (mt_cmp (op_oEq hr.units) (me_var 1) me_str (nomark _)) (mw_or (mt_cmp op_oGt (me_callB cr_oLen (by rfl) T.z_len (by decide +kernel) (ma_cons (me_var 1) ma_nil)) me_int (nomark _)) (mw_or1 (mt_not (mt_tru (me_callB (cr_oAll rfl) (by rfl) T.z_all (by decide +kernel) (ma_cons (me_lc (T := (.n 2)) fin_F rfl sc_read_whole.nd (mi_seq (me_var 1)) (by exact blkOk_by (own := [("mark", 2)]) (N := N_read_whole) (sc := defScope (topS 12)) (by decide +kernel)) rfl (by decide) (fun _ _ _ _ _ => pg_name (i := 2) sc_read_whole.nd rfl (by first | exact Or.inl rfl | exact Or.inr rfl)) (fun _ _ _ _ _ => mts_nil) (fun _ _ _ _ _ => (me_cmp (op_oIn (hu65 hr)) (me_var 2) (me_con T.c_DIGITS (by rfl)) (by rfl)))) ma_nil)))))))) (mss_one (ms_raise T.e_BadText rfl tkD (by rfl) (me_var 0))) mss_nil)
      (mss_cons (ms_if (mt_bool (mw_or (mt_cmp (op_oNe hr.units) (me_callTy cr_oStr (by rfl) T.z_str (by decide +kernel) (ma_cons (me_callTy cr_oIntS (by rfl) T.z_int (by decide +kernel) (ma_cons (me_var 1) ma_nil)) ma_nil)) (me_var 1) (nomark _)) (mw_or1 (mt_cmp (op_oEq hr.units) (me_var 0) me_str (nomark _))))) (mss_one (ms_raise T.e_BadText rfl tkD (by rfl) (me_var 0))) mss_nil)
      (mss_one (ms_ret (me_callTy cr_oIntS (by rfl) T.z_int (by decide +kernel) (ma_cons (me_var 0) ma_nil)))))))
theorem ok_is_polynomial (T : Txt w K mg) : FnA P w K mg base "is_polynomial" 2 1 F_is_polynomial :=
  fn_ok (k := 1) (b := B_is_polynomial) (N := N_is_polynomial) T.d_is_polynomial sc_is_polynomial (fun _ _ _ _ _ _ us hl => match us, hl with | [_], _ => rfl) fun f cdv A outer s H E hr =>
      (mss_cons (ms_if (mt_bool (mw_or (mt_not (mt_tru (me_isi (T := "tuple") (by decide) (by rfl) T.z_isinstance (by rfl) T.z_tuple (by decide +kernel) (me_var 0)))) (mw_or1 (mt_not (mt_tru (me_callB (cr_oAll rfl) (by rfl) T.z_all (by decide +kernel) (ma_cons (me_lc (T := (.n 1)) fin_F rfl sc_is_polynomial.nd (mi_seq (me_var 0)) (by exact blkOk_by (own := [("x", 1)]) (N := N_is_polynomial) (sc := defScope (topS 14)) (by decide +kernel)) rfl (by decide) (fun _ _ _ _ _ => pg_name (i := 1) sc_is_polynomial.nd rfl (by first | exact Or.inl rfl | exact Or.inr rfl)) (fun _ _ _ _ _ => mts_nil) (fun _ _ _ _ _ => (me_call (ok_is_int T) hr (by decide) tkB (by rfl) (ma_cons (me_var 1) ma_nil)))) ma_nil))))))) (mss_one (ms_ret me_bl)) mss_nil)
      (mss_one (ms_ret (me_or (me_cmp (op_oEq hr.units) (me_callB cr_oLen (by rfl) T.z_len (by decide +kernel) (ma_cons (me_var 0) ma_nil)) me_int (nomark _)) (me_one (me_cmp (op_oNe hr.units) (me_ix (me_var 0) (me_neg me_int)) me_int (nomark _)))))))
theorem ok_content (T : Txt w K mg) : FnA P w K mg base "content" 3 1 F_content :=
  fn_ok (k := 2) (b := B_content) (N := N_content) T.d_content sc_content (fun _ _ _ _ _ _ us hl => match us, hl with | [_], _ => rfl) fun f cdv A outer s H E hr =>
      (mss_one (ms_ret (me_call (ok_common_of T) hr (by decide) (passAt tkD) (by rfl) (ma_cons (me_var 0) ma_nil))))
theorem ok_is_plain (T : Txt w K mg) : FnA P w K mg base "is_plain" 4 1 F_is_plain :=
  fn_ok (k := 3) (b := B_is_plain) (N := N_is_plain) T.d_is_plain sc_is_plain (fun _ _ _ _ _ _ us hl => match us, hl with | [_], _ => rfl) fun f cdv A outer s H E hr =>
      (mss_one (ms_ret (me_and (me_cmp op_oGe (me_callB cr_oLen (by rfl) T.z_len (by decide +kernel) (ma_cons (me_var 0) ma_nil)) me_int (nomark _)) (me_and (me_cmp op_oGt (me_ix (me_var 0) (me_neg me_int)) me_int (nomark _)) (me_one (me_cmp (op_oEq hr.units) (me_call (ok_content T) hr (by decide) (passAt tkD) (by rfl) (ma_cons (me_var 0) ma_nil)) me_int (nomark _)))))))
theorem ok_is_name (T : Txt w K mg) : FnA P w K mg base "is_name" 5 1 F_is_name :=
  fn_ok (k := 4) (b := B_is_name) (N := N_is_name) T.d_is_name sc_is_name (fun _ _ _ _ _ _ us hl => match us, hl with | [_], _ => rfl) fun f cdv A outer s H E hr =>
      (mss_cons (ms_if (mt_bool (mw_or (mt_not (mt_tru (me_isi (T := "tuple") (by decide) (by rfl) T.z_isinstance (by rfl) T.z_tuple (by decide +kernel) (me_var 0)))) (mw_or (mt_cmp (op_oNe hr.units) (me_callB cr_oLen (by rfl) T.z_len (by decide +kernel) (ma_cons (me_var 0) ma_nil)) me_int (nomark _)) (mw_or (mt_not (mt_tru (me_call (ok_is_polynomial T) hr (by decide) (passAt tkD) (by rfl) (ma_cons (me_ix (me_var 0) me_int) ma_nil)))) (mw_or1 (mt_not (mt_tru (me_call (ok_is_plain T) hr (by decide) (passAt tkD) (by rfl) (ma_cons (me_ix (me_var 0) me_int) ma_nil))))))))) (mss_one (ms_ret me_bl)) mss_nil)
      (mss_cons (ms_asg (me_var 0) (mg_tup rfl (mgs_cons (mg_name (i := 1) sc_is_name.nd rfl (by first | exact Or.inl rfl | exact Or.inr rfl)) (mgs_cons (mg_name (i := 2) sc_is_name.nd rfl (by first | exact Or.inl rfl | exact Or.inr rfl)) (mgs_cons (mg_name (i := 3) sc_is_name.nd rfl (by first | exact Or.inl rfl | exact Or.inr rfl)) mgs_nil)))))
      (mss_cons (ms_if (mt_bool (mw_or (mt_not (mt_tru (me_call (ok_is_fraction T) hr (by decide) (passAt tkD) (by rfl) (ma_cons (me_var 2) ma_nil)))) (mw_or1 (mt_not (mt_tru (me_call (ok_is_fraction T) hr (by decide) (passAt tkD) (by rfl) (ma_cons (me_var 3) ma_nil))))))) (mss_one (ms_ret me_bl)) mss_nil)
      (mss_one (ms_ret (me_if (mt_cmp (op_oEq hr.units) (me_callB cr_oLen (by rfl) T.z_len (by decide +kernel) (ma_cons (me_var 1) ma_nil)) me_int (nomark _)) (me_and (me_cmp (op_oEq hr.units) (me_var 1) (me_tup (ma_cons (me_neg (me_ix (me_var 2) me_int)) (ma_cons (me_ix (me_var 2) me_int) ma_nil))) (nomark _)) (me_one (me_cmp (op_oEq hr.units) (me_var 2) (me_var 3) (nomark _)))) (me_call (ok_below T) hr (by decide) (passAt tkD) (by rfl) (ma_cons (me_var 2) (ma_cons (me_var 3) ma_nil)))))))))
theorem ok_is_tree (T : Txt w K mg) : ∀ n : Nat, FnA P w K mg base "is_tree" (n + 6) 1 (F_is_tree n)
  | 0 => fn_none (ps := ["value"]) T.d_is_tree (fun _ _ _ _ _ _ us hl => match us, hl with | [_], _ => rfl)
  | n + 1 =>
    have IH := ok_is_tree T n
    fn_ok (k := n + 6) (b := B_is_tree (F_is_tree n)) (N := N_is_tree) (ps := ["value"]) T.d_is_tree sc_is_tree (fun _ _ _ _ _ _ us hl => match us, hl with | [_], _ => rfl) fun f cdv A outer s H E hr =>
      (mss_cons (ms_if (mt_bool (mw_or (mt_not (mt_tru (me_isi (T := "tuple") (by decide) (by rfl) T.z_isinstance (by rfl) T.z_tuple (by decide +kernel) (me_var 0)))) (mw_or (mt_cmp (op_oLt hr.units0) (me_callB cr_oLen (by rfl) T.z_len (by decide +kernel) (ma_cons (me_var 0) ma_nil)) me_int (nomark _)) (mw_or1 (mt_not (mt_tru (me_isi (T := "str") (by decide) (by rfl) T.z_isinstance (by rfl) T.z_str (by decide +kernel) (me_ix (me_var 0) me_int)))))))) (mss_one (ms_ret me_bl)) mss_nil)
      (mss_cons (ms_par2 (i := 1) (j := 2) rfl sc_is_tree.nd rfl rfl (by decide) rfl rfl (ma_cons (me_ix (me_var 0) me_int) (ma_cons (me_sl (me_var 0) (mo_some me_int) mo_none) ma_nil)) rfl)
      (mss_cons (ms_if (mt_cmp (op_oEq hr.units) (me_var 1) me_str (nomark _)) (mss_one (ms_ret (me_and (me_cmp (op_oEq hr.units) (me_callB cr_oLen (by rfl) T.z_len (by decide +kernel) (ma_cons (me_var 2) ma_nil)) me_int (nomark _)) (me_one (me_call (ok_is_name T) hr (by omega) (passAt tkD) (by rfl) (ma_cons (me_ix (me_var 2) me_int) ma_nil)))))) mss_nil)
      (mss_cons (ms_if (mt_cmp (op_oIn (hu65 hr)) (me_var 1) (me_tup (ma_cons me_str (ma_cons me_str ma_nil))) (by rfl)) (mss_one (ms_ret (me_and (me_cmp (op_oEq hr.units) (me_callB cr_oLen (by rfl) T.z_len (by decide +kernel) (ma_cons (me_var 2) ma_nil)) me_int (nomark _)) (me_and (me_call IH hr (by omega) (passAt tkD) (by rfl) (ma_cons (me_ix (me_var 2) me_int) ma_nil)) (me_one (me_call IH hr (by omega) (passAt tkD) (by rfl) (ma_cons (me_ix (me_var 2) me_int) ma_nil))))))) mss_nil)
      (mss_cons (ms_if (mt_cmp (op_oIn (hu65 hr)) (me_var 1) (me_tup (ma_cons me_str (ma_cons me_str ma_nil))) (by rfl)) (mss_one (ms_ret (me_and (me_cmp (op_oEq hr.units) (me_callB cr_oLen (by rfl) T.z_len (by decide +kernel) (ma_cons (me_var 2) ma_nil)) me_int (nomark _)) (me_one (me_call IH hr (by omega) (passAt tkD) (by rfl) (ma_cons (me_ix (me_var 2) me_int) ma_nil)))))) mss_nil)
      (mss_one (ms_ret (me_and (me_cmp (op_oEq hr.units) (me_var 1) me_str (nomark _)) (me_and (me_cmp (op_oEq hr.units) (me_callB cr_oLen (by rfl) T.z_len (by decide +kernel) (ma_cons (me_var 2) ma_nil)) me_int (nomark _)) (me_and (me_call (ok_is_int T) hr (by omega) (passAt tkD) (by rfl) (ma_cons (me_ix (me_var 2) me_int) ma_nil)) (me_and (me_chain bl_oLe op_oLe op_oLe me_int (me_ix (me_var 2) me_int) me_int) (me_one (me_call IH hr (by omega) (passAt tkD) (by rfl) (ma_cons (me_ix (me_var 2) me_int) ma_nil))))))))))))))
theorem ok_is_parts (T : Txt w K mg) : FnA P w K mg base "is_parts" 5 1 F_is_parts :=
  fn_ok (k := 4) (b := B_is_parts) (N := N_is_parts) T.d_is_parts sc_is_parts (fun _ _ _ _ _ _ us hl => match us, hl with | [_], _ => rfl) fun f cdv A outer s H E hr =>
      (mss_cons (ms_if (mt_not (mt_tru (me_isi (T := "tuple") (by decide) (by rfl) T.z_isinstance (by rfl) T.z_tuple (by decide +kernel) (me_var 0)))) (mss_one (ms_ret me_bl)) mss_nil)
      (mss_cons (ms_for (passes_of rfl) rfl (mi_seq (me_var 0)) (mg_name (i := 1) sc_is_parts.nd rfl (by first | exact Or.inl rfl | exact Or.inr rfl)) (mss_cons (ms_if (mt_bool (mw_or (mt_not (mt_tru (me_isi (T := "tuple") (by decide) (by rfl) T.z_isinstance (by rfl) T.z_tuple (by decide +kernel) (me_var 1)))) (mw_or (mt_cmp (op_oNe hr.units) (me_callB cr_oLen (by rfl) T.z_len (by decide +kernel) (ma_cons (me_var 1) ma_nil)) me_int (nomark _)) (mw_or (mt_not (mt_tru (me_call (ok_is_polynomial T) hr (by decide) (passAt tkD) (by rfl) (ma_cons (me_ix (me_var 1) me_int) ma_nil)))) (mw_or1 (mt_not (mt_tru (me_call (ok_is_plain T) hr (by decide) (passAt tkD) (by rfl) (ma_cons (me_ix (me_var 1) me_int) ma_nil))))))))) (mss_one (ms_ret me_bl)) mss_nil)
      (mss_one (ms_if (mt_bool (mw_or (mt_not (mt_tru (me_call (ok_is_int T) hr (by decide) (passAt tkD) (by rfl) (ma_cons (me_ix (me_var 1) me_int) ma_nil)))) (mw_or1 (mt_cmp (op_oLt hr.units0) (me_ix (me_var 1) me_int) me_int (nomark _))))) (mss_one (ms_ret me_bl)) mss_nil))))
      (mss_cons (ms_set (i := 2) sc_is_parts.nd rfl (by first | exact Or.inl rfl | exact Or.inr rfl) (me_lc (T := (.t [3, 4])) fin_F rfl sc_is_parts.nd (mi_seq (me_var 0)) (by exact blkOk_by (own := [("g", 3), ("_", 4)]) (N := N_is_parts) (sc := defScope (topS 20)) (by decide +kernel)) rfl (by decide) (fun _ _ _ _ _ => pg_tup rfl (pgs_cons (pg_name (i := 3) sc_is_parts.nd rfl (by first | exact Or.inl rfl | exact Or.inr rfl)) (pgs_cons (pg_name (i := 4) sc_is_parts.nd rfl (by first | exact Or.inl rfl | exact Or.inr rfl)) pgs_nil))) (fun _ _ _ _ _ => mts_nil) (fun _ _ _ _ _ => (me_tup (ma_cons (me_callB cr_oLen (by rfl) T.z_len (by decide +kernel) (ma_cons (me_var 3) ma_nil)) (ma_cons (me_var 3) ma_nil))))))
      (mss_one (ms_ret (me_callB (cr_oAll rfl) (by rfl) T.z_all (by decide +kernel) (ma_cons (me_lc (T := (.n 5)) fin_F rfl sc_is_parts.nd (mi_range1 (by rfl) T.z_range (ma_cons (me_bin op_oSub2 (me_callB cr_oLen (by rfl) T.z_len (by decide +kernel) (ma_cons (me_var 2) ma_nil)) me_int) ma_nil)) (by exact blkOk_by (own := [("k", 5)]) (N := N_is_parts) (sc := defScope (topS 20)) (by decide +kernel)) rfl (by decide) (fun _ _ _ _ _ => pg_name (i := 5) sc_is_parts.nd rfl (by first | exact Or.inl rfl | exact Or.inr rfl)) (fun _ _ _ _ _ => mts_nil) (fun _ _ _ _ _ => (me_cmp (op_oLtK hr.units) (me_ix (me_var 2) (me_var 5)) (me_ix (me_var 2) (me_bin op_oAdd (me_var 5) me_int)) (nomark _)))) ma_nil)))))))
theorem ok_is_count (T : Txt w K mg) : FnA P w K mg base "is_count" 5 1 F_is_count :=
  fn_ok (k := 4) (b := B_is_count) (N := N_is_count) T.d_is_count sc_is_count (fun _ _ _ _ _ _ us hl => match us, hl with | [_], _ => rfl) fun f cdv A outer s H E hr =>
      (mss_cons (ms_asg (me_var 0) (mg_tup rfl (mgs_cons (mg_name (i := 1) sc_is_count.nd rfl (by first | exact Or.inl rfl | exact Or.inr rfl)) (mgs_cons (mg_name (i := 2) sc_is_count.nd rfl (by first | exact Or.inl rfl | exact Or.inr rfl)) (mgs_cons (mg_name (i := 3) sc_is_count.nd rfl (by first | exact Or.inl rfl | exact Or.inr rfl)) (mgs_cons (mg_name (i := 4) sc_is_count.nd rfl (by first | exact Or.inl rfl | exact Or.inr rfl)) mgs_nil))))))
      (mss_cons (ms_if (mt_bool (mw_or (mt_not (mt_tru (me_call (ok_is_polynomial T) hr (by decide) (passAt tkD) (by rfl) (ma_cons (me_var 1) ma_nil)))) (mw_or (mt_not (mt_tru (me_call (ok_is_plain T) hr (by decide) (passAt tkD) (by rfl) (ma_cons (me_var 1) ma_nil)))) (mw_or (mt_not (mt_tru (me_call (ok_is_fraction T) hr (by decide) (passAt tkD) (by rfl) (ma_cons (me_var 2) ma_nil)))) (mw_or (mt_not (mt_tru (me_call (ok_is_fraction T) hr (by decide) (passAt tkD) (by rfl) (ma_cons (me_var 3) ma_nil)))) (mw_or1 (mt_not (mt_tru (me_call (ok_below T) hr (by decide) (passAt tkD) (by rfl) (ma_cons (me_var 2) (ma_cons (me_var 3) ma_nil))))))))))) (mss_one (ms_ret me_bl)) mss_nil)
      (mss_one (ms_ret (me_and (me_call (ok_is_int T) hr (by decide) (passAt tkD) (by rfl) (ma_cons (me_var 4) ma_nil)) (me_one (me_cmp op_oGe (me_var 4) me_int (nomark _))))))))
theorem ok_is_statement (T : Txt w K mg) : FnA P w K mg base "is_statement" 77 1 F_is_statement :=
  fn_ok (k := 76) (b := B_is_statement) (N := N_is_statement) T.d_is_statement sc_is_statement (fun _ _ _ _ _ _ us hl => match us, hl with | [_], _ => rfl) fun f cdv A outer s H E hr =>
      (mss_cons (ms_if (mt_bool (mw_or (mt_not (mt_tru (me_isi (T := "tuple") (by decide) (by rfl) T.z_isinstance (by rfl) T.z_tuple (by decide +kernel) (me_var 0)))) (mw_or (mt_cmp (op_oLt hr.units0) (me_callB cr_oLen (by rfl) T.z_len (by decide +kernel) (ma_cons (me_var 0) ma_nil)) me_int (nomark _)) (mw_or1 (mt_not (mt_tru (me_isi (T := "str") (by decide) (by rfl) T.z_isinstance (by rfl) T.z_str (by decide +kernel) (me_ix (me_var 0) me_int)))))))) (mss_one (ms_ret me_bl)) mss_nil)
      (mss_cons (ms_par2 (i := 1) (j := 2) rfl sc_is_statement.nd rfl rfl (by decide) rfl rfl (ma_cons (me_ix (me_var 0) me_int) (ma_cons (me_sl (me_var 0) (mo_some me_int) mo_none) ma_nil)) rfl)
      (mss_cons (ms_if (mt_cmp (op_oEq hr.units) (me_var 1) me_str (nomark _)) (mss_one (ms_ret (me_and (me_cmp (op_oEq hr.units) (me_callB cr_oLen (by rfl) T.z_len (by decide +kernel) (ma_cons (me_var 2) ma_nil)) me_int (nomark _)) (me_and (me_call (ok_is_polynomial T) hr (by decide) (passAt tkD) (by rfl) (ma_cons (me_ix (me_var 2) me_int) ma_nil)) (me_one (me_call (ok_is_plain T) hr (by decide) (passAt tkD) (by rfl) (ma_cons (me_ix (me_var 2) me_int) ma_nil))))))) mss_nil)
      (mss_cons (ms_if (mt_cmp (op_oEq hr.units) (me_var 1) me_str (nomark _)) (mss_one (ms_ret (me_and (me_cmp (op_oEq hr.units) (me_callB cr_oLen (by rfl) T.z_len (by decide +kernel) (ma_cons (me_var 2) ma_nil)) me_int (nomark _)) (me_and (me_call (ok_is_polynomial T) hr (by decide) (passAt tkD) (by rfl) (ma_cons (me_ix (me_var 2) me_int) ma_nil)) (me_and (me_call (ok_is_int T) hr (by decide) (passAt tkD) (by rfl) (ma_cons (me_ix (me_var 2) me_int) ma_nil)) (me_one (me_call (ok_is_parts T) hr (by decide) (passAt tkD) (by rfl) (ma_cons (me_ix (me_var 2) me_int) ma_nil)))))))) mss_nil)
      (mss_cons (ms_if (mt_cmp (op_oEq hr.units) (me_var 1) me_str (nomark _)) (mss_one (ms_ret (me_and (me_cmp (op_oEq hr.units) (me_callB cr_oLen (by rfl) T.z_len (by decide +kernel) (ma_cons (me_var 2) ma_nil)) me_int (nomark _)) (me_one (me_call (ok_is_count T) hr (by decide) (passAt tkD) (by rfl) (ma_cons (me_var 2) ma_nil)))))) mss_nil)
      (mss_cons (ms_if (mt_cmp (op_oEq hr.units) (me_var 1) me_str (nomark _)) (mss_one (ms_ret (me_and (me_cmp (op_oEq hr.units) (me_callB cr_oLen (by rfl) T.z_len (by decide +kernel) (ma_cons (me_var 2) ma_nil)) me_int (nomark _)) (me_one (me_call (ok_is_name T) hr (by decide) (passAt tkD) (by rfl) (ma_cons (me_ix (me_var 2) me_int) ma_nil)))))) mss_nil)
      (mss_cons (ms_if (mt_cmp (op_oIn (hu65 hr)) (me_var 1) (me_tup (ma_cons me_str (ma_cons me_str (ma_cons me_str ma_nil)))) (by rfl)) (mss_one (ms_ret (me_and (me_cmp (op_oEq hr.units) (me_callB cr_oLen (by rfl) T.z_len (by decide +kernel) (ma_cons (me_var 2) ma_nil)) me_int (nomark _)) (me_and (me_call (ok_is_name T) hr (by decide) (passAt tkD) (by rfl) (ma_cons (me_ix (me_var 2) me_int) ma_nil)) (me_one (me_call (ok_is_name T) hr (by decide) (passAt tkD) (by rfl) (ma_cons (me_ix (me_var 2) me_int) ma_nil))))))) mss_nil)
      (mss_one (ms_ret (me_and (me_cmp (op_oEq hr.units) (me_var 1) me_str (nomark _)) (me_and (me_cmp (op_oEq hr.units) (me_callB cr_oLen (by rfl) T.z_len (by decide +kernel) (ma_cons (me_var 2) ma_nil)) me_int (nomark _)) (me_and (me_call (ok_is_name T) hr (by decide) (passAt tkD) (by rfl) (ma_cons (me_ix (me_var 2) me_int) ma_nil)) (me_one (me_call (ok_is_tree T (70)) hr (by decide) (passAt tkD) (by rfl) (ma_cons (me_ix (me_var 2) me_int) ma_nil)))))))))))))))
theorem ok_is_places (T : Txt w K mg) : FnA P w K mg base "is_places" 2 2 F_is_places :=
  fn_ok (k := 1) (b := B_is_places) (N := N_is_places) T.d_is_places sc_is_places (fun _ _ _ _ _ _ us hl => match us, hl with | [_, _], _ => rfl) fun f cdv A outer s H E hr =>
      (mss_cons (ms_if (mt_bool (mw_or (mt_not (mt_tru (me_isi (T := "tuple") (by decide) (by rfl) T.z_isinstance (by rfl) T.z_tuple (by decide +kernel) (me_var 0)))) (mw_or1 (mt_bool (mw_and (mt_cmp op_oIsNot (me_var 1) me_non (nomark _)) (mw_and1 (mt_cmp (op_oNe hr.units) (me_callB cr_oLen (by rfl) T.z_len (by decide +kernel) (ma_cons (me_var 0) ma_nil)) (me_var 1) (nomark _)))))))) (mss_one (ms_ret me_bl)) mss_nil)
      (mss_one (ms_ret (me_callB (cr_oAll rfl) (by rfl) T.z_all (by decide +kernel) (ma_cons (me_lc (T := (.n 2)) fin_F rfl sc_is_places.nd (mi_seq (me_var 0)) (by exact blkOk_by (own := [("x", 2)]) (N := N_is_places) (sc := defScope (topS 23)) (by decide +kernel)) rfl (by decide) (fun _ _ _ _ _ => pg_name (i := 2) sc_is_places.nd rfl (by first | exact Or.inl rfl | exact Or.inr rfl)) (fun _ _ _ _ _ => mts_nil) (fun _ _ _ _ _ => (me_and (me_call (ok_is_int T) hr (by decide) tkB (by rfl) (ma_cons (me_var 2) ma_nil)) (me_one (me_cmp op_oGe (me_var 2) me_int (nomark _)))))) ma_nil)))))
theorem ok_is_split (T : Txt w K mg) : FnA P w K mg base "is_split" 3 1 F_is_split :=
  fn_ok (k := 2) (b := B_is_split) (N := N_is_split) T.d_is_split sc_is_split (fun _ _ _ _ _ _ us hl => match us, hl with | [_], _ => rfl) fun f cdv A outer s H E hr =>
      (mss_cons (ms_if (mt_bool (mw_or (mt_not (mt_tru (me_isi (T := "tuple") (by decide) (by rfl) T.z_isinstance (by rfl) T.z_tuple (by decide +kernel) (me_var 0)))) (mw_or (mt_cmp (op_oNe hr.units) (me_callB cr_oLen (by rfl) T.z_len (by decide +kernel) (ma_cons (me_var 0) ma_nil)) me_int (nomark _)) (mw_or (mt_not (mt_tru (me_call (ok_is_int T) hr (by decide) (passAt tkD) (by rfl) (ma_cons (me_ix (me_var 0) me_int) ma_nil)))) (mw_or1 (mt_not (mt_tru (me_isi (T := "tuple") (by decide) (by rfl) T.z_isinstance (by rfl) T.z_tuple (by decide +kernel) (me_ix (me_var 0) me_int))))))))) (mss_one (ms_ret me_bl)) mss_nil)
      (mss_one (ms_ret (me_callB (cr_oAll rfl) (by rfl) T.z_all (by decide +kernel) (ma_cons (me_lc (T := (.n 1)) fin_F rfl sc_is_split.nd (mi_seq (me_ix (me_var 0) me_int)) (by exact blkOk_by (own := [("g", 1)]) (N := N_is_split) (sc := defScope (topS 26)) (by decide +kernel)) rfl (by decide) (fun _ _ _ _ _ => pg_name (i := 1) sc_is_split.nd rfl (by first | exact Or.inl rfl | exact Or.inr rfl)) (fun _ _ _ _ _ => mts_nil) (fun _ _ _ _ _ => (me_and (me_call (ok_is_polynomial T) hr (by decide) tkB (by rfl) (ma_cons (me_var 1) ma_nil)) (me_one (me_cmp op_oGt (me_callB cr_oLen (by rfl) T.z_len (by decide +kernel) (ma_cons (me_var 1) ma_nil)) me_int (nomark _)))))) ma_nil)))))
theorem ok_is_move (T : Txt w K mg) : FnA P w K mg base "is_move" 3 1 F_is_move :=
  fn_ok (k := 2) (b := B_is_move) (N := N_is_move) T.d_is_move sc_is_move (fun _ _ _ _ _ _ us hl => match us, hl with | [_], _ => rfl) fun f cdv A outer s H E hr =>
      (mss_cons (ms_if (mt_bool (mw_or (mt_not (mt_tru (me_isi (T := "tuple") (by decide) (by rfl) T.z_isinstance (by rfl) T.z_tuple (by decide +kernel) (me_var 0)))) (mw_or (mt_cmp (op_oEq hr.units) (me_callB cr_oLen (by rfl) T.z_len (by decide +kernel) (ma_cons (me_var 0) ma_nil)) me_int (nomark _)) (mw_or1 (mt_not (mt_tru (me_isi (T := "str") (by decide) (by rfl) T.z_isinstance (by rfl) T.z_str (by decide +kernel) (me_ix (me_var 0) me_int)))))))) (mss_one (ms_ret me_bl)) mss_nil)
      (mss_cons (ms_if (mt_cmp (op_oEq hr.units) (me_var 0) (me_tup (ma_cons me_str ma_nil)) (nomark _)) (mss_one (ms_ret me_bl)) mss_nil)
      (mss_cons (ms_if (mt_cmp (op_oEq hr.units) (me_ix (me_var 0) me_int) me_str (nomark _)) (mss_one (ms_ret (me_and (me_cmp (op_oEq hr.units) (me_callB cr_oLen (by rfl) T.z_len (by decide +kernel) (ma_cons (me_var 0) ma_nil)) me_int (nomark _)) (me_one (me_call (ok_is_int T) hr (by decide) (passAt tkD) (by rfl) (ma_cons (me_ix (me_var 0) me_int) ma_nil)))))) mss_nil)
      (mss_one (ms_ret (me_and (me_cmp (op_oEq hr.units) (me_ix (me_var 0) me_int) me_str (nomark _)) (me_and (me_cmp (op_oEq hr.units) (me_callB cr_oLen (by rfl) T.z_len (by decide +kernel) (ma_cons (me_var 0) ma_nil)) me_int (nomark _)) (me_and (me_call (ok_is_fraction T) hr (by decide) (passAt tkD) (by rfl) (ma_cons (me_ix (me_var 0) me_int) ma_nil)) (me_one (me_cmp (op_oNe hr.units) (me_ix (me_ix (me_var 0) me_int) me_int) me_int (nomark _)))))))))))
theorem ok_is_made (T : Txt w K mg) : FnA P w K mg base "is_made" 3 1 F_is_made :=
  fn_ok (k := 2) (b := B_is_made) (N := N_is_made) T.d_is_made sc_is_made (fun _ _ _ _ _ _ us hl => match us, hl with | [_], _ => rfl) fun f cdv A outer s H E hr =>
      (mss_cons (ms_if (mt_bool (mw_or (mt_cmp (op_oNe hr.units) (me_callB cr_oLen (by rfl) T.z_len (by decide +kernel) (ma_cons (me_var 0) ma_nil)) me_int (nomark _)) (mw_or (mt_not (mt_tru (me_call (ok_is_places T) hr (by decide) (passAt tkD) (by rfl) (ma_cons (me_sl (me_var 0) mo_none (mo_some me_int)) (ma_cons me_int ma_nil))))) (mw_or1 (mt_not (mt_tru (me_call (ok_is_places T) hr (by decide) (passAt tkD) (by rfl) (ma_cons (me_ix (me_var 0) me_int) (ma_cons me_non ma_nil))))))))) (mss_one (ms_ret me_bl)) mss_nil)
      (mss_one (ms_ret (me_or (me_cmp op_oIs (me_ix (me_var 0) me_int) me_non (nomark _)) (me_one (me_call (ok_is_places T) hr (by decide) (passAt tkD) (by rfl) (ma_cons (me_sl (me_var 0) (mo_some me_int) mo_none) (ma_cons me_int ma_nil))))))))
theorem ok_is_reason (T : Txt w K mg) : FnA P w K mg base "is_reason" 4 1 F_is_reason :=
  fn_ok (k := 3) (b := B_is_reason) (N := N_is_reason) T.d_is_reason sc_is_reason (fun _ _ _ _ _ _ us hl => match us, hl with | [_], _ => rfl) fun f cdv A outer s H E hr =>
      (mss_cons (ms_if (mt_bool (mw_or (mt_not (mt_tru (me_isi (T := "tuple") (by decide) (by rfl) T.z_isinstance (by rfl) T.z_tuple (by decide +kernel) (me_var 0)))) (mw_or (mt_cmp (op_oEq hr.units) (me_callB cr_oLen (by rfl) T.z_len (by decide +kernel) (ma_cons (me_var 0) ma_nil)) me_int (nomark _)) (mw_or1 (mt_not (mt_tru (me_isi (T := "str") (by decide) (by rfl) T.z_isinstance (by rfl) T.z_str (by decide +kernel) (me_ix (me_var 0) me_int)))))))) (mss_one (ms_ret me_bl)) mss_nil)
      (mss_cons (ms_par2 (i := 1) (j := 2) rfl sc_is_reason.nd rfl rfl (by decide) rfl rfl (ma_cons (me_ix (me_var 0) me_int) (ma_cons (me_sl (me_var 0) (mo_some me_int) mo_none) ma_nil)) rfl)
      (mss_cons (ms_if (mt_inC (i := 1) T.c_COUNTS (by rfl)) (mss_one (ms_ret (me_call (ok_is_places T) hr (by decide) (passAt tkD) (by rfl) (ma_cons (me_var 2) (ma_cons (me_ixC (i := 1) T.c_COUNTS (by rfl)) ma_nil))))) mss_nil)
      (mss_cons (ms_if (mt_cmp (op_oEq hr.units) (me_var 1) me_str (nomark _)) (mss_one (ms_ret (me_and (me_cmp (op_oEq hr.units) (me_callB cr_oLen (by rfl) T.z_len (by decide +kernel) (ma_cons (me_var 2) ma_nil)) me_int (nomark _)) (me_one (me_call (ok_is_int T) hr (by decide) (passAt tkD) (by rfl) (ma_cons (me_ix (me_var 2) me_int) ma_nil)))))) mss_nil)
      (mss_cons (ms_if (mt_cmp (op_oEq hr.units) (me_var 1) me_str (nomark _)) (mss_one (ms_ret (me_and (me_cmp (op_oEq hr.units) (me_callB cr_oLen (by rfl) T.z_len (by decide +kernel) (ma_cons (me_var 2) ma_nil)) me_int (nomark _)) (me_and (me_call (ok_is_int T) hr (by decide) (passAt tkD) (by rfl) (ma_cons (me_ix (me_var 2) me_int) ma_nil)) (me_one (me_call (ok_is_int T) hr (by decide) (passAt tkD) (by rfl) (ma_cons (me_ix (me_var 2) me_int) ma_nil))))))) mss_nil)
      (mss_cons (ms_if (mt_cmp (op_oEq hr.units) (me_var 1) me_str (nomark _)) (mss_one (ms_ret (me_and (me_cmp (op_oEq hr.units) (me_callB cr_oLen (by rfl) T.z_len (by decide +kernel) (ma_cons (me_var 2) ma_nil)) me_int (nomark _)) (me_and (me_isi (T := "tuple") (by decide) (by rfl) T.z_isinstance (by rfl) T.z_tuple (by decide +kernel) (me_ix (me_var 2) me_int)) (me_one (me_callB (cr_oAll rfl) (by rfl) T.z_all (by decide +kernel) (ma_cons (me_lc (T := (.n 3)) fin_F rfl sc_is_reason.nd (mi_seq (me_ix (me_var 2) me_int)) (by exact blkOk_by (own := [("x", 3)]) (N := N_is_reason) (sc := defScope (topS 25)) (by decide +kernel)) rfl (by decide) (fun _ _ _ _ _ => pg_name (i := 3) sc_is_reason.nd rfl (by first | exact Or.inl rfl | exact Or.inr rfl)) (fun _ _ _ _ _ => mts_nil) (fun _ _ _ _ _ => (me_call (ok_is_split T) hr (by decide) tkB (by rfl) (ma_cons (me_var 3) ma_nil)))) ma_nil))))))) mss_nil)
      (mss_cons (ms_if (mt_cmp (op_oEq hr.units) (me_var 1) me_str (nomark _)) (mss_one (ms_ret (me_and (me_cmp (op_oEq hr.units) (me_callB cr_oLen (by rfl) T.z_len (by decide +kernel) (ma_cons (me_var 2) ma_nil)) me_int (nomark _)) (me_and (me_call (ok_is_int T) hr (by decide) (passAt tkD) (by rfl) (ma_cons (me_ix (me_var 2) me_int) ma_nil)) (me_and (me_cmp op_oGe (me_ix (me_var 2) me_int) me_int (nomark _)) (me_one (me_call (ok_is_split T) hr (by decide) (passAt tkD) (by rfl) (ma_cons (me_tup (ma_cons (me_ix (me_var 2) me_int) (ma_cons (me_ix (me_var 2) me_int) ma_nil))) ma_nil)))))))) mss_nil)
      (mss_cons (ms_if (mt_cmp (op_oEq hr.units) (me_var 1) me_str (nomark _)) (mss_one (ms_ret (me_and (me_cmp (op_oEq hr.units) (me_callB cr_oLen (by rfl) T.z_len (by decide +kernel) (ma_cons (me_var 2) ma_nil)) me_int (nomark _)) (me_and (me_call (ok_is_places T) hr (by decide) (passAt tkD) (by rfl) (ma_cons (me_sl (me_var 2) mo_none (mo_some me_int)) (ma_cons me_int ma_nil))) (me_one (me_call (ok_is_move T) hr (by decide) (passAt tkD) (by rfl) (ma_cons (me_ix (me_var 2) me_int) ma_nil))))))) mss_nil)
      (mss_cons (ms_if (mt_cmp (op_oEq hr.units) (me_var 1) me_str (nomark _)) (mss_one (ms_ret (me_and (me_cmp (op_oEq hr.units) (me_callB cr_oLen (by rfl) T.z_len (by decide +kernel) (ma_cons (me_var 2) ma_nil)) me_int (nomark _)) (me_one (me_call (ok_is_places T) hr (by decide) (passAt tkD) (by rfl) (ma_cons (me_ix (me_var 2) me_int) (ma_cons me_non ma_nil))))))) mss_nil)
      (mss_cons (ms_if (mt_cmp (op_oEq hr.units) (me_var 1) me_str (nomark _)) (mss_one (ms_ret (me_and (me_cmp (op_oEq hr.units) (me_callB cr_oLen (by rfl) T.z_len (by decide +kernel) (ma_cons (me_var 2) ma_nil)) me_int (nomark _)) (me_and (me_isi (T := "tuple") (by decide) (by rfl) T.z_isinstance (by rfl) T.z_tuple (by decide +kernel) (me_ix (me_var 2) me_int)) (me_one (me_isi (T := "tuple") (by decide) (by rfl) T.z_isinstance (by rfl) T.z_tuple (by decide +kernel) (me_ix (me_var 2) me_int))))))) mss_nil)
      (mss_one (ms_ret (me_and (me_cmp (op_oEq hr.units) (me_var 1) me_str (nomark _)) (me_one (me_call (ok_is_made T) hr (by decide) (passAt tkD) (by rfl) (ma_cons (me_var 2) ma_nil))))))))))))))))
theorem ok_is_proof (T : Txt w K mg) : FnA P w K mg base "is_proof" 78 1 F_is_proof :=
  fn_ok (k := 77) (b := B_is_proof) (N := N_is_proof) T.d_is_proof sc_is_proof (fun _ _ _ _ _ _ us hl => match us, hl with | [_], _ => rfl) fun f cdv A outer s H E hr =>
      (mss_cons (ms_if (mt_not (mt_tru (me_isi (T := "tuple") (by decide) (by rfl) T.z_isinstance (by rfl) T.z_tuple (by decide +kernel) (me_var 0)))) (mss_one (ms_ret me_bl)) mss_nil)
      (mss_cons (ms_for (passes_of rfl) rfl (mi_seq (me_var 0)) (mg_name (i := 1) sc_is_proof.nd rfl (by first | exact Or.inl rfl | exact Or.inr rfl)) (mss_one (ms_if (mt_bool (mw_or (mt_not (mt_tru (me_isi (T := "tuple") (by decide) (by rfl) T.z_isinstance (by rfl) T.z_tuple (by decide +kernel) (me_var 1)))) (mw_or (mt_cmp (op_oNe hr.units) (me_callB cr_oLen (by rfl) T.z_len (by decide +kernel) (ma_cons (me_var 1) ma_nil)) me_int (nomark _)) (mw_or (mt_not (mt_tru (me_call (ok_is_statement T) hr (by decide) (passAt tkD) (by rfl) (ma_cons (me_ix (me_var 1) me_int) ma_nil)))) (mw_or1 (mt_not (mt_tru (me_call (ok_is_reason T) hr (by decide) (passAt tkD) (by rfl) (ma_cons (me_ix (me_var 1) me_int) ma_nil))))))))) (mss_one (ms_ret me_bl)) mss_nil)))
      (mss_one (ms_ret me_bl))))
theorem ok_write_value (T : Txt w K mg) : ∀ n : Nat, FnA P w K mg base "write_value" (n + 1) 1 (F_write_value n)
  | 0 => fn_none (ps := ["value"]) T.d_write_value (fun _ _ _ _ _ _ us hl => match us, hl with | [_], _ => rfl)
  | n + 1 =>
    have IH := ok_write_value T n
    fn_ok (k := n + 1) (b := B_write_value (F_write_value n)) (N := N_write_value) (ps := ["value"]) T.d_write_value sc_write_value (fun _ _ _ _ _ _ us hl => match us, hl with | [_], _ => rfl) fun f cdv A outer s H E hr =>
      (mss_cons (ms_if (mt_cmp op_oIs (me_var 0) me_non (nomark _)) (mss_one (ms_ret me_str)) mss_nil)
      (mss_cons (ms_if (mt_tru (me_isi (T := "tuple") (by decide) (by rfl) T.z_isinstance (by rfl) T.z_tuple (by decide +kernel) (me_var 0))) (mss_one (ms_ret (me_bin op_oAdd (me_bin op_oAdd me_str (me_join me_str (me_lc (T := (.n 1)) fin_F rfl sc_write_value.nd (mi_seq (me_var 0)) (by exact blkOk_by (own := [("part", 1)]) (N := N_write_value) (sc := defScope (topS 33)) (by decide +kernel)) rfl (by decide) (fun _ _ _ _ _ => pg_name (i := 1) sc_write_value.nd rfl (by first | exact Or.inl rfl | exact Or.inr rfl)) (fun _ _ _ _ _ => mts_nil) (fun _ _ _ _ _ => (me_call IH hr (by omega) tkB (by rfl) (ma_cons (me_var 1) ma_nil)))))) me_str))) mss_nil)
      (mss_one (ms_ret (me_if (mt_tru (me_isi (T := "str") (by decide) (by rfl) T.z_isinstance (by rfl) T.z_str (by decide +kernel) (me_var 0))) (me_var 0) (me_callTy cr_oStr (by rfl) T.z_str (by decide +kernel) (ma_cons (me_var 0) ma_nil)))))))
theorem ok_signs_of (T : Txt w K mg) : FnA P w K mg base "signs_of" 1 1 F_signs_of :=
  fn_okT (k := 0) (b := B_signs_of) (N := N_signs_of) T.d_signs_of sc_signs_of (by decide) (by decide) (fun _ _ _ _ _ _ us hl => match us, hl with | [_], _ => rfl) fun f cdv A outer s H E hr =>
      (msst_ret (met_split (met_repl2 (met_repl1 (me_var 0))) me_str))
theorem ok_read_mark (T : Txt w K mg) : FnA P w K mg base "read_mark" 2 1 F_read_mark :=
  fn_ok (k := 1) (b := B_read_mark) (N := N_read_mark) T.d_read_mark sc_read_mark (fun _ _ _ _ _ _ us hl => match us, hl with | [_], _ => rfl) fun f cdv A outer s H E hr =>
      (mss_cons (ms_if (mt_cmp (op_oEq hr.units) (me_var 0) me_str (nomark _)) (mss_one (ms_ret me_non)) mss_nil)
      (mss_cons (ms_if (mt_tru (me_callB (cr_oAll rfl) (by rfl) T.z_all (by decide +kernel) (ma_cons (me_lc (T := (.n 1)) fin_F rfl sc_read_mark.nd (mi_seq (me_var 0)) (by exact blkOk_by (own := [("letter", 1)]) (N := N_read_mark) (sc := defScope (topS 36)) (by decide +kernel)) rfl (by decide) (fun _ _ _ _ _ => pg_name (i := 1) sc_read_mark.nd rfl (by first | exact Or.inl rfl | exact Or.inr rfl)) (fun _ _ _ _ _ => mts_nil) (fun _ _ _ _ _ => (me_cmp (op_oIn (hu65 hr)) (me_var 1) (me_con T.c_LETTERS (by rfl)) (by rfl)))) ma_nil))) (mss_one (ms_ret (me_var 0))) mss_nil)
      (mss_one (ms_ret (me_call (ok_read_whole T) hr (by decide) (passAt tkD) (by rfl) (ma_cons (me_var 0) ma_nil))))))
theorem ok_read_value (T : Txt w K mg) : FnA P w K mg base "read_value" 72 1 F_read_value :=
  fn_ok (k := 71) (b := B_read_value) (N := N_read_value) T.d_read_value sc_read_value (fun _ _ _ _ _ _ us hl => match us, hl with | [_], _ => rfl) fun f cdv A outer s H E hr =>
      (mss_cons (ms_set (i := 1) sc_read_value.nd rfl (by first | exact Or.inl rfl | exact Or.inr rfl) (me_lstM (ma_cons (me_lstM ma_nil) ma_nil)))
      (mss_cons (ms_for (passes_of rfl) rfl (mi_seq (me_lc (T := (.n 2)) fin_F rfl sc_read_value.nd (mi_seq (me_call (ok_signs_of T) hr (by decide) (passAt tkD) (by rfl) (ma_cons (me_var 0) ma_nil))) (by exact blkOk_by (own := [("mark", 2)]) (N := N_read_value) (sc := defScope (topS 35)) (by decide +kernel)) rfl (by decide) (fun _ _ _ _ _ => pg_name (i := 2) sc_read_value.nd rfl (by first | exact Or.inl rfl | exact Or.inr rfl)) (fun _ _ _ _ _ => (mts_one (mt_cmp (op_oNe hr.units) (me_var 2) me_str (nomark _)))) (fun _ _ _ _ _ => (me_var 2)))) (mg_name (i := 2) sc_read_value.nd rfl (by first | exact Or.inl rfl | exact Or.inr rfl)) (mss_cons (ms_if (mt_cmp (op_oEq hr.units) (me_var 2) me_str (nomark _)) (mss_one (ms_expr (me_append (me_var 1) (me_lstM ma_nil)))) (mss_one (ms_if (mt_cmp (op_oEq hr.units) (me_var 2) me_str (nomark _)) (mss_cons (ms_if (mt_cmp (op_oLt hr.units0) (me_callB cr_oLen (by rfl) T.z_len (by decide +kernel) (ma_cons (me_var 1) ma_nil)) me_int (nomark _)) (mss_one (ms_raise T.e_BadText rfl tkD (by rfl) (me_var 0))) mss_nil)
      (mss_cons (ms_set (i := 3) sc_read_value.nd rfl (by first | exact Or.inl rfl | exact Or.inr rfl) (me_callTy cr_oTuple (by rfl) T.z_tuple (by decide +kernel) (ma_cons (me_pop (me_var 1)) ma_nil)))
      (mss_one (ms_expr (me_append (me_ix (me_var 1) (me_neg me_int)) (me_var 3)))))) (mss_one (ms_expr (me_append (me_ix (me_var 1) (me_neg me_int)) (me_call (ok_read_mark T) hr (by decide) (passAt tkD) (by rfl) (ma_cons (me_var 2) ma_nil))))))))
      (mss_one (ms_if (mt_cmp op_oGt (me_callB cr_oLen (by rfl) T.z_len (by decide +kernel) (ma_cons (me_var 1) ma_nil)) (me_con T.c_DEEP (by rfl)) (nomark _)) (mss_one (ms_raise T.e_BadText rfl tkD (by rfl) (me_var 0))) mss_nil))))
      (mss_cons (ms_if (mt_bool (mw_or (mt_cmp (op_oNe hr.units) (me_callB cr_oLen (by rfl) T.z_len (by decide +kernel) (ma_cons (me_var 1) ma_nil)) me_int (nomark _)) (mw_or (mt_cmp (op_oNe hr.units) (me_callB cr_oLen (by rfl) T.z_len (by decide +kernel) (ma_cons (me_ix (me_var 1) me_int) ma_nil)) me_int (nomark _)) (mw_or1 (mt_cmp (op_oNe hr.units) (me_call (ok_write_value T (70)) hr (by decide) (passAt tkD) (by rfl) (ma_cons (me_ix (me_ix (me_var 1) me_int) me_int) ma_nil)) (me_var 0) (nomark _)))))) (mss_one (ms_raise T.e_BadText rfl tkD (by rfl) (me_var 0))) mss_nil)
      (mss_one (ms_ret (me_ix (me_ix (me_var 1) me_int) me_int))))))
theorem ok_write_proof (T : Txt w K mg) : FnA P w K mg base "write_proof" 72 1 F_write_proof :=
  fn_ok (k := 71) (b := B_write_proof) (N := N_write_proof) T.d_write_proof sc_write_proof (fun _ _ _ _ _ _ us hl => match us, hl with | [_], _ => rfl) fun f cdv A outer s H E hr =>
      (mss_one (ms_ret (me_join me_str (me_lc (T := (.t [1, 2])) fin_F rfl sc_write_proof.nd (mi_seq (me_var 0)) (by exact blkOk_by (own := [("statement", 1), ("reason", 2)]) (N := N_write_proof) (sc := defScope (topS 37)) (by decide +kernel)) rfl (by decide) (fun _ _ _ _ _ => pg_tup rfl (pgs_cons (pg_name (i := 1) sc_write_proof.nd rfl (by first | exact Or.inl rfl | exact Or.inr rfl)) (pgs_cons (pg_name (i := 2) sc_write_proof.nd rfl (by first | exact Or.inl rfl | exact Or.inr rfl)) pgs_nil))) (fun _ _ _ _ _ => mts_nil) (fun _ _ _ _ _ => (me_bin op_oAdd (me_bin op_oAdd (me_bin op_oAdd (me_call (ok_write_value T (70)) hr (by decide) tkB (by rfl) (ma_cons (me_var 1) ma_nil)) me_str) (me_call (ok_write_value T (70)) hr (by decide) tkB (by rfl) (ma_cons (me_var 2) ma_nil))) me_str))))))
theorem ok_read_proof (T : Txt w K mg) : FnA P w K mg base "read_proof" 79 1 F_read_proof :=
  fn_ok (k := 78) (b := B_read_proof) (N := N_read_proof) T.d_read_proof sc_read_proof (fun _ _ _ _ _ _ us hl => match us, hl with | [_], _ => rfl) fun f cdv A outer s H E hr =>
      (mss_cons (ms_set (i := 1) sc_read_proof.nd rfl (by first | exact Or.inl rfl | exact Or.inr rfl) (me_split (me_var 0) me_str))
      (mss_cons (ms_if (mt_cmp (op_oNe hr.units) (me_ix (me_var 1) (me_neg me_int)) me_str (nomark _)) (mss_one (ms_raise T.e_BadText rfl tkD (by rfl) (me_var 0))) mss_nil)
      (mss_cons (ms_set (i := 2) sc_read_proof.nd rfl (by first | exact Or.inl rfl | exact Or.inr rfl) (me_lstM ma_nil))
      (mss_cons (ms_for (passes_of rfl) rfl (mi_seq (me_sl (me_var 1) mo_none (mo_some (me_neg me_int)))) (mg_name (i := 3) sc_read_proof.nd rfl (by first | exact Or.inl rfl | exact Or.inr rfl)) (mss_cons (ms_asg (me_partition (me_var 3) me_str) (mg_tup rfl (mgs_cons (mg_name (i := 4) sc_read_proof.nd rfl (by first | exact Or.inl rfl | exact Or.inr rfl)) (mgs_cons (mg_name (i := 5) sc_read_proof.nd rfl (by first | exact Or.inl rfl | exact Or.inr rfl)) (mgs_cons (mg_name (i := 6) sc_read_proof.nd rfl (by first | exact Or.inl rfl | exact Or.inr rfl)) mgs_nil)))))
      (mss_cons (ms_if (mt_cmp (op_oEq hr.units) (me_var 5) me_str (nomark _)) (mss_one (ms_raise T.e_BadText rfl tkD (by rfl) (me_var 3))) mss_nil)
      (mss_one (ms_expr (me_append (me_var 2) (me_tup (ma_cons (me_call (ok_read_value T) hr (by decide) (passAt tkD) (by rfl) (ma_cons (me_var 4) ma_nil)) (ma_cons (me_call (ok_read_value T) hr (by decide) (passAt tkD) (by rfl) (ma_cons (me_var 6) ma_nil)) ma_nil)))))))))
      (mss_cons (ms_if (mt_not (mt_tru (me_call (ok_is_proof T) hr (by decide) (passAt tkD) (by rfl) (ma_cons (me_callTy cr_oTuple (by rfl) T.z_tuple (by decide +kernel) (ma_cons (me_var 2) ma_nil)) ma_nil)))) (mss_one (ms_raise T.e_NotAProof rfl tkD (by rfl) (me_var 0))) mss_nil)
      (mss_one (ms_ret (me_callTy cr_oTuple (by rfl) T.z_tuple (by decide +kernel) (ma_cons (me_var 2) ma_nil)))))))))
theorem ok__law_cell (T : Txt w K mg) : FnA P w K mg base "_law_cell" 1 2 F__law_cell :=
  fn_ok (k := 0) (b := B__law_cell) (N := N__law_cell) T.d__law_cell sc__law_cell (fun _ _ _ _ _ _ us hl => match us, hl with | [_, _], _ => rfl) fun f cdv A outer s H E hr =>
      (mss_cons (ms_if (mt_cmp (op_oLt hr.units0) (me_var 1) (me_callB cr_oLen (by rfl) T.z_len (by decide +kernel) (ma_cons (me_var 0) ma_nil)) (nomark _)) (mss_one (ms_ret (me_ix (me_var 0) (me_var 1)))) mss_nil)
      (mss_one (ms_ret me_int)))
theorem ok__law_draws (T : Txt w K mg) : FnA P w K mg base "_law_draws" 1 2 F__law_draws :=
  fn_ok (k := 0) (b := B__law_draws) (N := N__law_draws) T.d__law_draws sc__law_draws (fun _ _ _ _ _ _ us hl => match us, hl with | [_, _], _ => rfl) fun f cdv A outer s H E hr =>
      (mss_cons (ms_set (i := 2) sc__law_draws.nd rfl (by first | exact Or.inl rfl | exact Or.inr rfl) (me_lstM ma_nil))
      (mss_cons (ms_set (i := 3) sc__law_draws.nd rfl (by first | exact Or.inl rfl | exact Or.inr rfl) (me_var 0))
      (mss_cons (ms_for (passes_of rfl) rfl (mi_range1 (by rfl) T.z_range (ma_cons (me_var 1) ma_nil)) (mg_name (i := 4) sc__law_draws.nd rfl (by first | exact Or.inl rfl | exact Or.inr rfl)) (mss_one (ms_if (mt_bool (mw_and (mt_cmp op_oGe (me_var 0) (me_bin op_oPow me_int me_int) (nomark _)) (mw_and1 (mt_cmp op_oGt (me_var 3) me_int (nomark _))))) (mss_cons (ms_expr (me_append (me_var 2) (me_bin op_oMod (me_callTy cr_oInt (by rfl) T.z_int (by decide +kernel) (ma_cons (me_var 3) ma_nil)) me_int)))
      (mss_one (ms_set (i := 3) sc__law_draws.nd rfl (by first | exact Or.inl rfl | exact Or.inr rfl) (me_bin op_oDiv (me_var 3) me_int)))) (mss_cons (ms_set (i := 5) sc__law_draws.nd rfl (by first | exact Or.inl rfl | exact Or.inr rfl) (me_bin op_oMod (me_callTy cr_oInt (by rfl) T.z_int (by decide +kernel) (ma_cons (me_bin op_oAdd (me_bin op_oMul (me_var 0) me_int) (me_bin op_oMul (me_bin op_oAdd (me_var 4) me_int) me_int)) ma_nil)) me_int))
      (mss_cons (ms_set (i := 5) sc__law_draws.nd rfl (by first | exact Or.inl rfl | exact Or.inr rfl) (me_bin op_oMod (me_callTy cr_oInt (by rfl) T.z_int (by decide +kernel) (ma_cons (me_bin op_oAdd (me_bin op_oAdd (me_bin op_oMul (me_var 5) (me_var 5)) (me_bin op_oMul (me_var 5) me_int)) (me_bin op_oMul (me_var 4) me_int)) ma_nil)) me_int))
      (mss_cons (ms_set (i := 5) sc__law_draws.nd rfl (by first | exact Or.inl rfl | exact Or.inr rfl) (me_bin op_oMod (me_callTy cr_oInt (by rfl) T.z_int (by decide +kernel) (ma_cons (me_bin op_oAdd (me_bin op_oAdd (me_bin op_oMul (me_var 5) (me_var 5)) (me_var 0)) (me_bin op_oMul me_int (me_var 4))) ma_nil)) me_int))
      (mss_one (ms_expr (me_append (me_var 2) (me_bin op_oMod (me_bin op_oDiv (me_var 5) me_int) me_int))))))))))
      (mss_one (ms_ret (me_frz (me_var 2)))))))
theorem ok__law_kind (T : Txt w K mg) : FnA P w K mg base "_law_kind" 1 1 F__law_kind :=
  fn_ok (k := 0) (b := B__law_kind) (N := N__law_kind) T.d__law_kind sc__law_kind (fun _ _ _ _ _ _ us hl => match us, hl with | [_], _ => rfl) fun f cdv A outer s H E hr =>
      (mss_cons (ms_if (mt_tru (me_isi (T := "bool") (by decide) (by rfl) T.z_isinstance (by rfl) T.z_bool (by decide +kernel) (me_var 0))) (mss_one (ms_ret me_int)) mss_nil)
      (mss_cons (ms_if (mt_tru (me_isi (T := "int") (by decide) (by rfl) T.z_isinstance (by rfl) T.z_int (by decide +kernel) (me_var 0))) (mss_one (ms_ret me_int)) mss_nil)
      (mss_cons (ms_if (mt_tru (me_isi (T := "str") (by decide) (by rfl) T.z_isinstance (by rfl) T.z_str (by decide +kernel) (me_var 0))) (mss_one (ms_ret me_int)) mss_nil)
      (mss_cons (ms_if (mt_tru (me_isi (T := "tuple") (by decide) (by rfl) T.z_isinstance (by rfl) T.z_tuple (by decide +kernel) (me_var 0))) (mss_one (ms_ret me_int)) mss_nil)
      (mss_cons (ms_if (mt_tru (me_isi (T := "list") (by decide) (by rfl) T.z_isinstance (by rfl) T.z_list (by decide +kernel) (me_var 0))) (mss_one (ms_ret me_int)) mss_nil)
      (mss_cons (ms_if (mt_tru (me_isi (T := "dict") (by decide) (by rfl) T.z_isinstance (by rfl) T.z_dict (by decide +kernel) (me_var 0))) (mss_one (ms_ret me_int)) mss_nil)
      (mss_one (ms_ret me_int))))))))
theorem ok__law_equal (T : Txt w K mg) : ∀ n : Nat, FnA P w K mg base "_law_equal" (n + 2) 2 (F__law_equal n)
  | 0 => fn_none (ps := ["x", "due"]) T.d__law_equal (fun _ _ _ _ _ _ us hl => match us, hl with | [_, _], _ => rfl)
  | n + 1 =>
    have IH := ok__law_equal T n
    fn_ok (k := n + 2) (b := B__law_equal (F__law_equal n)) (N := N__law_equal) (ps := ["x", "due"]) T.d__law_equal sc__law_equal (fun _ _ _ _ _ _ us hl => match us, hl with | [_, _], _ => rfl) fun f cdv A outer s H E hr =>
      (mss_cons (ms_if (mt_cmp (op_oNe hr.units) (me_call (ok__law_kind T) hr (by omega) (passAt tkD) (by rfl) (ma_cons (me_var 0) ma_nil)) (me_call (ok__law_kind T) hr (by omega) (passAt tkD) (by rfl) (ma_cons (me_var 1) ma_nil)) (nomark _)) (mss_one (ms_ret me_bl)) mss_nil)
      (mss_cons (ms_if (mt_bool (mw_or (mt_tru (me_isi (T := "tuple") (by decide) (by rfl) T.z_isinstance (by rfl) T.z_tuple (by decide +kernel) (me_var 1))) (mw_or1 (mt_tru (me_isi (T := "list") (by decide) (by rfl) T.z_isinstance (by rfl) T.z_list (by decide +kernel) (me_var 1)))))) (mss_cons (ms_if (mt_cmp (op_oNe hr.units) (me_callB cr_oLen (by rfl) T.z_len (by decide +kernel) (ma_cons (me_var 0) ma_nil)) (me_callB cr_oLen (by rfl) T.z_len (by decide +kernel) (ma_cons (me_var 1) ma_nil)) (nomark _)) (mss_one (ms_ret me_bl)) mss_nil)
      (mss_one (ms_ret (me_cmp (op_oEq hr.units) (me_callB cr_oLen (by rfl) T.z_len (by decide +kernel) (ma_cons (me_lc (T := (.n 3)) fin_F rfl sc__law_equal.nd (mi_range1 (by rfl) T.z_range (ma_cons (me_callB cr_oLen (by rfl) T.z_len (by decide +kernel) (ma_cons (me_var 1) ma_nil)) ma_nil)) (by exact blkOk_by (own := [("k", 3)]) (N := N__law_equal) (sc := defScope (topS 43)) (by decide +kernel)) rfl (by decide) (fun _ _ _ _ _ => pg_name (i := 3) sc__law_equal.nd rfl (by first | exact Or.inl rfl | exact Or.inr rfl)) (fun _ _ _ _ _ => (mts_one (mt_not (mt_tru (me_call IH hr (by omega) tkB (by rfl) (ma_cons (me_ix (me_var 0) (me_var 3)) (ma_cons (me_ix (me_var 1) (me_var 3)) ma_nil))))))) (fun _ _ _ _ _ => (me_var 3))) ma_nil)) me_int (nomark _))))) mss_nil)
      (mss_cons (ms_if (mt_tru (me_isi (T := "dict") (by decide) (by rfl) T.z_isinstance (by rfl) T.z_dict (by decide +kernel) (me_var 1))) (mss_cons (ms_if (mt_cmp (op_oNe hr.units) (me_callB cr_oLen (by rfl) T.z_len (by decide +kernel) (ma_cons (me_var 0) ma_nil)) (me_callB cr_oLen (by rfl) T.z_len (by decide +kernel) (ma_cons (me_var 1) ma_nil)) (nomark _)) (mss_one (ms_ret me_bl)) mss_nil)
      (mss_cons (ms_for (passes_of rfl) rfl (mi_seq (me_var 0)) (mg_name (i := 2) sc__law_equal.nd rfl (by first | exact Or.inl rfl | exact Or.inr rfl)) (mss_cons (ms_if (mt_bool (mw_or (mt_cmp (op_oNotIn (hu65 hr)) (me_var 2) (me_var 1) (by rfl)) (mw_or1 (mt_not (mt_tru (me_call IH hr (by omega) (passAt tkD) (by rfl) (ma_cons (me_ix (me_var 0) (me_var 2)) (ma_cons (me_ix (me_var 1) (me_var 2)) ma_nil)))))))) (mss_one (ms_ret me_bl)) mss_nil)
      (mss_one (ms_if (mt_cmp (op_oEq hr.units) (me_callB cr_oLen (by rfl) T.z_len (by decide +kernel) (ma_cons (me_lc (T := (.n 4)) fin_F rfl sc__law_equal.nd (mi_seq (me_var 1)) (by exact blkOk_by (own := [("other", 4)]) (N := N__law_equal) (sc := defScope (topS 43)) (by decide +kernel)) rfl (by decide) (fun _ _ _ _ _ => pg_name (i := 4) sc__law_equal.nd rfl (by first | exact Or.inl rfl | exact Or.inr rfl)) (fun _ _ _ _ _ => (mts_one (mt_bool (mw_and (mt_cmp (op_oEq hr.units) (me_var 4) (me_var 2) (nomark _)) (mw_and1 (mt_tru (me_call IH hr (by omega) tkB (by rfl) (ma_cons (me_var 2) (ma_cons (me_var 4) ma_nil))))))))) (fun _ _ _ _ _ => (me_var 4))) ma_nil)) me_int (nomark _)) (mss_one (ms_ret me_bl)) mss_nil))))
      (mss_one (ms_ret me_bl)))) mss_nil)
      (mss_one (ms_ret (me_cmp (op_oEq hr.units) (me_var 0) (me_var 1) (nomark _)))))))
theorem ok__law_pool (T : Txt w K mg) : FnA P w K mg base "_law_pool" 2 1 F__law_pool :=
  fn_ok (k := 1) (b := B__law_pool) (N := N__law_pool) T.d__law_pool sc__law_pool (fun _ _ _ _ _ _ us hl => match us, hl with | [_], _ => rfl) fun f cdv A outer s H E hr =>
      (mss_cons (ms_set (i := 1) sc__law_pool.nd rfl (by first | exact Or.inl rfl | exact Or.inr rfl) (me_lst ma_nil))
      (mss_cons (ms_for (passes_of rfl) rfl (mi_range1 (by rfl) T.z_range (ma_cons (me_callB (cr_oMin2 rfl) (by rfl) T.z_min (by decide +kernel) (ma_cons me_int (ma_cons (me_callB (cr_oMax2 rfl) (by rfl) T.z_max (by decide +kernel) (ma_cons me_int (ma_cons (me_callB cr_oLen (by rfl) T.z_len (by decide +kernel) (ma_cons (me_var 0) ma_nil)) ma_nil))) ma_nil))) ma_nil)) (mg_name (i := 2) sc__law_pool.nd rfl (by first | exact Or.inl rfl | exact Or.inr rfl)) (mss_one (ms_set (i := 1) sc__law_pool.nd rfl (by first | exact Or.inl rfl | exact Or.inr rfl) (me_bin op_oAdd (me_var 1) (me_call (ok__law_draws T) hr (by decide) (passAt tkD) (by rfl) (ma_cons (me_bin op_oAdd (me_call (ok__law_cell T) hr (by decide) (passAt tkD) (by rfl) (ma_cons (me_var 0) (ma_cons (me_var 2) ma_nil))) (me_bin op_oMul me_int (me_var 2))) (ma_cons me_int ma_nil)))))))
      (mss_one (ms_ret (me_lst (ma_cons (me_var 1) (ma_cons (me_lstM (ma_cons me_int ma_nil)) ma_nil)))))))
theorem ok__law_pick (T : Txt w K mg) : FnA P w K mg base "_law_pick" 1 2 F__law_pick :=
  fn_ok (k := 0) (b := B__law_pick) (N := N__law_pick) T.d__law_pick sc__law_pick (fun _ _ _ _ _ _ us hl => match us, hl with | [_, _], _ => rfl) fun f cdv A outer s H E hr =>
      (mss_cons (ms_set (i := 2) sc__law_pick.nd rfl (by first | exact Or.inl rfl | exact Or.inr rfl) (me_ix (me_ix (me_var 0) me_int) me_int))
      (mss_cons (ms_put (me_bin op_oAdd (me_var 2) me_int) (me_ix (me_var 0) me_int) me_int)
      (mss_cons (ms_set (i := 3) sc__law_pick.nd rfl (by first | exact Or.inl rfl | exact Or.inr rfl) (me_bin op_oDiv (me_var 2) (me_callB cr_oLen (by rfl) T.z_len (by decide +kernel) (ma_cons (me_ix (me_var 0) me_int) ma_nil))))
      (mss_one (ms_ret (me_bin op_oMod (me_callTy cr_oInt (by rfl) T.z_int (by decide +kernel) (ma_cons (me_bin op_oAdd (me_bin op_oAdd (me_ix (me_ix (me_var 0) me_int) (me_bin op_oMod (me_var 2) (me_callB cr_oLen (by rfl) T.z_len (by decide +kernel) (ma_cons (me_ix (me_var 0) me_int) ma_nil)))) (me_bin op_oMul (me_var 3) me_int)) (me_bin op_oMul (me_var 3) (me_var 2))) ma_nil)) (me_var 1)))))))
theorem ok__law_m_gcd (T : Txt w K mg) : FnA P w K mg base "_law_m_gcd" 1 2 F__law_m_gcd :=
  fn_ok (k := 0) (b := B__law_m_gcd) (N := N__law_m_gcd) T.d__law_m_gcd sc__law_m_gcd (fun _ _ _ _ _ _ us hl => match us, hl with | [_, _], _ => rfl) fun f cdv A outer s H E hr =>
      (mss_cons (ms_par2 (i := 0) (j := 1) rfl sc__law_m_gcd.nd rfl rfl (by decide) rfl rfl (ma_cons (me_callB cr_oAbs (by rfl) T.z_abs (by decide +kernel) (ma_cons (me_var 0) ma_nil)) (ma_cons (me_callB cr_oAbs (by rfl) T.z_abs (by decide +kernel) (ma_cons (me_var 1) ma_nil)) ma_nil)) rfl)
      (mss_cons (ms_while (fun e _ => (evI e 1).natAbs + 1) (passes_of rfl) (mt_cmp (op_oNe hr.units) (me_var 1) me_int (nomark _)) (mss_one (ms_par2 (i := 0) (j := 1) rfl sc__law_m_gcd.nd rfl rfl (by decide) rfl rfl (ma_cons (me_var 1) (ma_cons (me_bin op_oMod (me_callTy cr_oInt (by rfl) T.z_int (by decide +kernel) (ma_cons (me_var 0) ma_nil)) (me_var 1)) ma_nil)) rfl)))
      (mss_one (ms_ret (me_var 0)))))
theorem ok__law_m_f (T : Txt w K mg) : FnA P w K mg base "_law_m_f" 2 2 F__law_m_f :=
  fn_ok (k := 1) (b := B__law_m_f) (N := N__law_m_f) T.d__law_m_f sc__law_m_f (fun _ _ _ _ _ _ us hl => match us, hl with | [_, _], _ => rfl) fun f cdv A outer s H E hr =>
      (mss_cons (ms_set (i := 2) sc__law_m_f.nd rfl (by first | exact Or.inl rfl | exact Or.inr rfl) (me_call (ok__law_m_gcd T) hr (by decide) (passAt tkD) (by rfl) (ma_cons (me_var 0) (ma_cons (me_var 1) ma_nil))))
      (mss_cons (ms_if (mt_cmp (op_oLt hr.units0) (me_var 1) me_int (nomark _)) (mss_one (ms_set (i := 2) sc__law_m_f.nd rfl (by first | exact Or.inl rfl | exact Or.inr rfl) (me_neg (me_var 2)))) mss_nil)
      (mss_one (ms_ret (me_tup (ma_cons (me_bin op_oDiv (me_var 0) (me_var 2)) (ma_cons (me_bin op_oDiv (me_var 1) (me_var 2)) ma_nil)))))))
theorem ok__law_m_drawn_f (T : Txt w K mg) : FnA P w K mg base "_law_m_drawn_f" 3 1 F__law_m_drawn_f :=
  fn_ok (k := 2) (b := B__law_m_drawn_f) (N := N__law_m_drawn_f) T.d__law_m_drawn_f sc__law_m_drawn_f (fun _ _ _ _ _ _ us hl => match us, hl with | [_], _ => rfl) fun f cdv A outer s H E hr =>
      (mss_one (ms_ret (me_call (ok__law_m_f T) hr (by decide) (passAt tkD) (by rfl) (ma_cons (me_bin op_oSub2 (me_call (ok__law_pick T) hr (by decide) (passAt tkD) (by rfl) (ma_cons (me_var 0) (ma_cons me_int ma_nil))) me_int) (ma_cons (me_ix (me_lst (ma_cons me_int (ma_cons me_int (ma_cons me_int (ma_cons me_int (ma_cons me_int ma_nil)))))) (me_call (ok__law_pick T) hr (by decide) (passAt tkD) (by rfl) (ma_cons (me_var 0) (ma_cons me_int ma_nil)))) ma_nil)))))
theorem ok__law_m_trim (T : Txt w K mg) : FnA P w K mg base "_law_m_trim" 1 1 F__law_m_trim :=
  fn_ok (k := 0) (b := B__law_m_trim) (N := N__law_m_trim) T.d__law_m_trim sc__law_m_trim (fun _ _ _ _ _ _ us hl => match us, hl with | [_], _ => rfl) fun f cdv A outer s H E hr =>
      (mss_cons (ms_set (i := 1) sc__law_m_trim.nd rfl (by first | exact Or.inl rfl | exact Or.inr rfl) (me_listM cr_listM (by rfl) T.z_list (by decide +kernel) (ma_cons (me_var 0) ma_nil)))
      (mss_cons (ms_while fuel0 (passes_of rfl) (mt_bool (mw_and (mt_cmp (op_oNe hr.units) (me_var 1) (me_lst ma_nil) (nomark _)) (mw_and1 (mt_cmp (op_oEq hr.units) (me_ix (me_var 1) (me_neg me_int)) me_int (nomark _))))) (mss_one (ms_expr (me_pop (me_var 1)))))
      (mss_one (ms_ret (me_callTy cr_oTuple (by rfl) T.z_tuple (by decide +kernel) (ma_cons (me_var 1) ma_nil))))))
theorem ok__law_m_content (T : Txt w K mg) : FnA P w K mg base "_law_m_content" 2 1 F__law_m_content :=
  fn_ok (k := 1) (b := B__law_m_content) (N := N__law_m_content) T.d__law_m_content sc__law_m_content (fun _ _ _ _ _ _ us hl => match us, hl with | [_], _ => rfl) fun f cdv A outer s H E hr =>
      (mss_cons (ms_set (i := 1) sc__law_m_content.nd rfl (by first | exact Or.inl rfl | exact Or.inr rfl) me_int)
      (mss_cons (ms_for (passes_of rfl) rfl (mi_seq (me_var 0)) (mg_name (i := 2) sc__law_m_content.nd rfl (by first | exact Or.inl rfl | exact Or.inr rfl)) (mss_one (ms_set (i := 1) sc__law_m_content.nd rfl (by first | exact Or.inl rfl | exact Or.inr rfl) (me_call (ok__law_m_gcd T) hr (by decide) (passAt tkD) (by rfl) (ma_cons (me_var 1) (ma_cons (me_var 2) ma_nil))))))
      (mss_one (ms_ret (me_var 1)))))
theorem ok__law_m_plain (T : Txt w K mg) : FnA P w K mg base "_law_m_plain" 3 1 F__law_m_plain :=
  fn_ok (k := 2) (b := B__law_m_plain) (N := N__law_m_plain) T.d__law_m_plain sc__law_m_plain (fun _ _ _ _ _ _ us hl => match us, hl with | [_], _ => rfl) fun f cdv A outer s H E hr =>
      (mss_cons (ms_if (mt_cmp (op_oEq hr.units) (me_var 0) (me_tup ma_nil) (nomark _)) (mss_one (ms_ret (me_tup (ma_cons me_int (ma_cons (me_tup ma_nil) ma_nil))))) mss_nil)
      (mss_cons (ms_set (i := 1) sc__law_m_plain.nd rfl (by first | exact Or.inl rfl | exact Or.inr rfl) (me_call (ok__law_m_content T) hr (by decide) (passAt tkD) (by rfl) (ma_cons (me_var 0) ma_nil)))
      (mss_cons (ms_if (mt_cmp (op_oLt hr.units0) (me_ix (me_var 0) (me_neg me_int)) me_int (nomark _)) (mss_one (ms_set (i := 1) sc__law_m_plain.nd rfl (by first | exact Or.inl rfl | exact Or.inr rfl) (me_neg (me_var 1)))) mss_nil)
      (mss_one (ms_ret (me_tup (ma_cons (me_var 1) (ma_cons (me_callTy cr_oTuple (by rfl) T.z_tuple (by decide +kernel) (ma_cons (me_lc (T := (.n 2)) fin_F rfl sc__law_m_plain.nd (mi_seq (me_var 0)) (by exact blkOk_by (own := [("x", 2)]) (N := N__law_m_plain) (sc := defScope (topS 51)) (by decide +kernel)) rfl (by decide) (fun _ _ _ _ _ => pg_name (i := 2) sc__law_m_plain.nd rfl (by first | exact Or.inl rfl | exact Or.inr rfl)) (fun _ _ _ _ _ => mts_nil) (fun _ _ _ _ _ => (me_bin op_oDiv (me_var 2) (me_var 1)))) ma_nil)) ma_nil))))))))
theorem ok__law_m_poly (T : Txt w K mg) : FnA P w K mg base "_law_m_poly" 2 3 F__law_m_poly :=
  fn_ok (k := 1) (b := B__law_m_poly) (N := N__law_m_poly) T.d__law_m_poly sc__law_m_poly (fun _ _ _ _ _ _ us hl => match us, hl with | [_, _, _], _ => rfl) fun f cdv A outer s H E hr =>
      (mss_cons (ms_set (i := 3) sc__law_m_poly.nd rfl (by first | exact Or.inl rfl | exact Or.inr rfl) (me_bin op_oAdd (me_lc (T := (.n 4)) fin_F rfl sc__law_m_poly.nd (mi_range1 (by rfl) T.z_range (ma_cons (me_var 1) ma_nil)) (by exact blkOk_by (own := [("k", 4)]) (N := N__law_m_poly) (sc := defScope (topS 52)) (by decide +kernel)) rfl (by decide) (fun _ _ _ _ _ => pg_name (i := 4) sc__law_m_poly.nd rfl (by first | exact Or.inl rfl | exact Or.inr rfl)) (fun _ _ _ _ _ => mts_nil) (fun _ _ _ _ _ => (me_bin op_oSub2 (me_call (ok__law_pick T) hr (by decide) tkB (by rfl) (ma_cons (me_var 0) (ma_cons (me_bin op_oAdd (me_bin op_oMul me_int (me_var 2)) me_int) ma_nil))) (me_var 2)))) (me_lst (ma_cons (me_bin op_oAdd me_int (me_call (ok__law_pick T) hr (by decide) (passAt tkD) (by rfl) (ma_cons (me_var 0) (ma_cons (me_var 2) ma_nil)))) ma_nil))))
      (mss_one (ms_ret (me_call (ok__law_m_trim T) hr (by decide) (passAt tkD) (by rfl) (ma_cons (me_var 3) ma_nil)))))
theorem ok__law_m_plain_one (T : Txt w K mg) : FnA P w K mg base "_law_m_plain_one" 4 3 F__law_m_plain_one :=
  fn_ok (k := 3) (b := B__law_m_plain_one) (N := N__law_m_plain_one) T.d__law_m_plain_one sc__law_m_plain_one (fun _ _ _ _ _ _ us hl => match us, hl with | [_, _, _], _ => rfl) fun f cdv A outer s H E hr =>
      (mss_one (ms_ret (me_ix (me_call (ok__law_m_plain T) hr (by decide) (passAt tkD) (by rfl) (ma_cons (me_call (ok__law_m_poly T) hr (by decide) (passAt tkD) (by rfl) (ma_cons (me_var 0) (ma_cons (me_var 1) (ma_cons (me_var 2) ma_nil)))) ma_nil)) me_int)))
theorem ok__law_m_root (T : Txt w K mg) : FnA P w K mg base "_law_m_root" 1 1 F__law_m_root :=
  fn_ok (k := 0) (b := B__law_m_root) (N := N__law_m_root) T.d__law_m_root sc__law_m_root (fun _ _ _ _ _ _ us hl => match us, hl with | [_], _ => rfl) fun f cdv A outer s H E hr =>
      (mss_cons (ms_set (i := 1) sc__law_m_root.nd rfl (by first | exact Or.inl rfl | exact Or.inr rfl) me_int)
      (mss_cons (ms_while fuel0 (passes_of rfl) (mt_cmp op_oLe (me_bin op_oMul (me_bin op_oAdd (me_var 1) me_int) (me_bin op_oAdd (me_var 1) me_int)) (me_var 0) (nomark _)) (mss_one (ms_set (i := 1) sc__law_m_root.nd rfl (by first | exact Or.inl rfl | exact Or.inr rfl) (me_bin op_oAdd (me_var 1) me_int))))
      (mss_one (ms_ret (me_var 1)))))
theorem ok__law_m_ratio (T : Txt w K mg) : FnA P w K mg base "_law_m_ratio" 1 1 F__law_m_ratio :=
  fn_ok (k := 0) (b := B__law_m_ratio) (N := N__law_m_ratio) T.d__law_m_ratio sc__law_m_ratio (fun _ _ _ _ _ _ us hl => match us, hl with | [_], _ => rfl) fun f cdv A outer s H E hr =>
      (mss_one (ms_ret (me_tup (ma_cons (me_tup (ma_cons (me_neg (me_ix (me_var 0) me_int)) (ma_cons (me_ix (me_var 0) me_int) ma_nil))) (ma_cons (me_var 0) (ma_cons (me_var 0) ma_nil))))))
theorem ok__law_m_square (T : Txt w K mg) : FnA P w K mg base "_law_m_square" 2 1 F__law_m_square :=
  fn_ok (k := 1) (b := B__law_m_square) (N := N__law_m_square) T.d__law_m_square sc__law_m_square (fun _ _ _ _ _ _ us hl => match us, hl with | [_], _ => rfl) fun f cdv A outer s H E hr =>
      (mss_cons (ms_set (i := 1) sc__law_m_square.nd rfl (by first | exact Or.inl rfl | exact Or.inr rfl) (me_call (ok__law_m_root T) hr (by decide) (passAt tkD) (by rfl) (ma_cons (me_var 0) ma_nil)))
      (mss_one (ms_ret (me_tup (ma_cons (me_tup (ma_cons (me_neg (me_var 0)) (ma_cons me_int (ma_cons me_int ma_nil)))) (ma_cons (me_tup (ma_cons (me_var 1) (ma_cons me_int ma_nil))) (ma_cons (me_tup (ma_cons (me_bin op_oAdd (me_var 1) me_int) (ma_cons me_int ma_nil))) ma_nil)))))))
theorem ok__law_m_square_proof (T : Txt w K mg) : FnA P w K mg base "_law_m_square_proof" 3 1 F__law_m_square_proof :=
  fn_ok (k := 2) (b := B__law_m_square_proof) (N := N__law_m_square_proof) T.d__law_m_square_proof sc__law_m_square_proof (fun _ _ _ _ _ _ us hl => match us, hl with | [_], _ => rfl) fun f cdv A outer s H E hr =>
      (mss_cons (ms_asg (me_call (ok__law_m_square T) hr (by decide) (passAt tkD) (by rfl) (ma_cons (me_var 0) ma_nil)) (mg_tup rfl (mgs_cons (mg_name (i := 1) sc__law_m_square_proof.nd rfl (by first | exact Or.inl rfl | exact Or.inr rfl)) (mgs_cons (mg_name (i := 2) sc__law_m_square_proof.nd rfl (by first | exact Or.inl rfl | exact Or.inr rfl)) (mgs_cons (mg_name (i := 3) sc__law_m_square_proof.nd rfl (by first | exact Or.inl rfl | exact Or.inr rfl)) mgs_nil)))))
      (mss_cons (ms_set (i := 4) sc__law_m_square_proof.nd rfl (by first | exact Or.inl rfl | exact Or.inr rfl) (me_ix (me_lc (T := (.n 6)) fin_F rfl sc__law_m_square_proof.nd (mi_range2 (by rfl) T.z_range (ma_cons me_int (ma_cons (me_bin op_oAdd (me_var 0) me_int) ma_nil))) (by exact blkOk_by (own := [("x", 6)]) (N := N__law_m_square_proof) (sc := defScope (topS 57)) (by decide +kernel)) rfl (by decide) (fun _ _ _ _ _ => pg_name (i := 6) sc__law_m_square_proof.nd rfl (by first | exact Or.inl rfl | exact Or.inr rfl)) (fun _ _ _ _ _ => (mts_one (mt_bool (mw_and (mt_cmp (op_oEq hr.units) (me_bin op_oMod (me_callTy cr_oInt (by rfl) T.z_int (by decide +kernel) (ma_cons (me_var 0) ma_nil)) (me_var 6)) me_int (nomark _)) (mw_and (mt_cmp (op_oNe hr.units) (me_bin op_oMod (me_callTy cr_oInt (by rfl) T.z_int (by decide +kernel) (ma_cons (me_var 0) ma_nil)) (me_bin op_oMul (me_var 6) (me_var 6))) me_int (nomark _)) (mw_and1 (mt_cmp (op_oEq hr.units) (me_callB cr_oLen (by rfl) T.z_len (by decide +kernel) (ma_cons (me_lc (T := (.n 7)) fin_F rfl sc__law_m_square_proof.nd (mi_range2 (by rfl) T.z_range (ma_cons me_int (ma_cons (me_var 6) ma_nil))) (blkOk_by (own := [("y", 7)]) (by kernel_rfl)) rfl (by decide) (fun _ _ _ _ _ => pg_name (i := 7) sc__law_m_square_proof.nd rfl (by first | exact Or.inl rfl | exact Or.inr rfl)) (fun _ _ _ _ _ => (mts_one (mt_cmp (op_oEq hr.units) (me_bin op_oMod (me_var 6) (me_var 7)) me_int (nomark _)))) (fun _ _ _ _ _ => (me_var 7))) ma_nil)) me_int (nomark _)))))))) (fun _ _ _ _ _ => (me_var 6))) me_int))
      (mss_cons (ms_set (i := 5) sc__law_m_square_proof.nd rfl (by first | exact Or.inl rfl | exact Or.inr rfl) (me_tup (ma_cons (me_tup (ma_cons (me_tup (ma_cons me_str (ma_cons (me_var 1) ma_nil))) (ma_cons (me_tup (ma_cons me_str (ma_cons me_int (ma_cons (me_var 4) ma_nil)))) ma_nil))) (ma_cons (me_tup (ma_cons (me_tup (ma_cons me_str (ma_cons (me_var 1) (ma_cons (me_var 2) (ma_cons (me_var 3) (ma_cons me_int ma_nil)))))) (ma_cons (me_tup (ma_cons me_str (ma_cons (me_tup (ma_cons (me_var 1) (ma_cons (me_tup (ma_cons me_int (ma_cons me_int ma_nil))) (ma_cons (me_tup (ma_cons me_int ma_nil)) ma_nil)))) (ma_cons (me_tup (ma_cons (me_tup (ma_cons me_int (ma_cons (me_tup (ma_cons me_int (ma_cons me_int ma_nil))) (ma_cons (me_var 0) ma_nil)))) ma_nil)) ma_nil)))) ma_nil))) ma_nil))))
      (mss_one (ms_ret (me_bin op_oAdd (me_var 5) (me_tup (ma_cons (me_tup (ma_cons (me_tup (ma_cons me_str (ma_cons (me_tup (ma_cons (me_var 1) (ma_cons (me_var 2) (ma_cons (me_var 3) ma_nil)))) ma_nil))) (ma_cons (me_tup (ma_cons me_str (ma_cons me_int (ma_cons me_int ma_nil)))) ma_nil))) ma_nil))))))))
theorem ok__law_m_text (T : Txt w K mg) : ∀ n : Nat, FnA P w K mg base "_law_m_text" (n + 1) 1 (F__law_m_text n)
  | 0 => fn_none (ps := ["value"]) T.d__law_m_text (fun _ _ _ _ _ _ us hl => match us, hl with | [_], _ => rfl)
  | n + 1 =>
    have IH := ok__law_m_text T n
    fn_ok (k := n + 1) (b := B__law_m_text (F__law_m_text n)) (N := N__law_m_text) (ps := ["value"]) T.d__law_m_text sc__law_m_text (fun _ _ _ _ _ _ us hl => match us, hl with | [_], _ => rfl) fun f cdv A outer s H E hr =>
      (mss_cons (ms_if (mt_cmp op_oIs (me_var 0) me_non (nomark _)) (mss_one (ms_ret me_str)) mss_nil)
      (mss_cons (ms_if (mt_tru (me_isi (T := "tuple") (by decide) (by rfl) T.z_isinstance (by rfl) T.z_tuple (by decide +kernel) (me_var 0))) (mss_one (ms_ret (me_bin op_oAdd (me_bin op_oAdd me_str (me_join me_str (me_lc (T := (.n 1)) fin_F rfl sc__law_m_text.nd (mi_seq (me_var 0)) (by exact blkOk_by (own := [("x", 1)]) (N := N__law_m_text) (sc := defScope (topS 58)) (by decide +kernel)) rfl (by decide) (fun _ _ _ _ _ => pg_name (i := 1) sc__law_m_text.nd rfl (by first | exact Or.inl rfl | exact Or.inr rfl)) (fun _ _ _ _ _ => mts_nil) (fun _ _ _ _ _ => (me_call IH hr (by omega) tkB (by rfl) (ma_cons (me_var 1) ma_nil)))))) me_str))) mss_nil)
      (mss_one (ms_ret (me_callTy cr_oStrS (by rfl) T.z_str (by decide +kernel) (ma_cons (me_var 0) ma_nil))))))
theorem ok__law_m_proof_text (T : Txt w K mg) : FnA P w K mg base "_law_m_proof_text" 72 1 F__law_m_proof_text :=
  fn_ok (k := 71) (b := B__law_m_proof_text) (N := N__law_m_proof_text) T.d__law_m_proof_text sc__law_m_proof_text (fun _ _ _ _ _ _ us hl => match us, hl with | [_], _ => rfl) fun f cdv A outer s H E hr =>
      (mss_one (ms_ret (me_join me_str (me_lc (T := (.t [1, 2])) fin_F rfl sc__law_m_proof_text.nd (mi_seq (me_var 0)) (by exact blkOk_by (own := [("one", 1), ("two", 2)]) (N := N__law_m_proof_text) (sc := defScope (topS 59)) (by decide +kernel)) rfl (by decide) (fun _ _ _ _ _ => pg_tup rfl (pgs_cons (pg_name (i := 1) sc__law_m_proof_text.nd rfl (by first | exact Or.inl rfl | exact Or.inr rfl)) (pgs_cons (pg_name (i := 2) sc__law_m_proof_text.nd rfl (by first | exact Or.inl rfl | exact Or.inr rfl)) pgs_nil))) (fun _ _ _ _ _ => mts_nil) (fun _ _ _ _ _ => (me_bin op_oAdd (me_bin op_oAdd (me_bin op_oAdd (me_call (ok__law_m_text T (70)) hr (by decide) tkB (by rfl) (ma_cons (me_var 1) ma_nil)) me_str) (me_call (ok__law_m_text T (70)) hr (by decide) tkB (by rfl) (ma_cons (me_var 2) ma_nil))) me_str))))))
theorem ok__law_m_read (T : Txt w K mg) : FnA P w K mg base "_law_m_read" 80 1 F__law_m_read :=
  fn_ok (k := 79) (b := B__law_m_read) (N := N__law_m_read) T.d__law_m_read sc__law_m_read (fun _ _ _ _ _ _ us hl => match us, hl with | [_], _ => rfl) fun f cdv A outer s H E hr =>
      (mss_one (ms_try (i := 1) rfl rfl sc__law_m_read.nd rfl rfl (by rfl) tkD T.p_PartsError (fun W' pn xe tk ps => (mss_one (ms_ret (me_lst (ma_cons me_str (ma_cons (me_call (ok_read_proof T) hr (by decide) (passAt tk) (by rfl) (ma_cons (me_var 0) ma_nil)) ma_nil)))))) ⟨⟨rfl, T.m_BadText_PartsError, fun C a oe pn hC hz hf => su_ret (su_cons su_str (su_cons (su_orT (su_isE T.q_BadText_BadText hC hz hf rfl (by rfl) T.z_isinstance (by rfl)) (su_isE T.q_BadText_NotAProof hC hz hf rfl (by rfl) T.z_isinstance (by rfl))) su_nil)) (by decide)⟩, ⟨⟨rfl, T.m_NotAProof_PartsError, fun C a oe pn hC hz hf => su_ret (su_cons su_str (su_cons (su_orF (su_isE T.q_NotAProof_BadText hC hz hf rfl (by rfl) T.z_isinstance (by rfl)) (su_isE T.q_NotAProof_NotAProof hC hz hf rfl (by rfl) T.z_isinstance (by rfl))) su_nil)) (by decide)⟩, trivial⟩⟩))
theorem ok_law_body (T : Txt w K mg) (f : Addr) (cdv : Value) (A : Around) (outer : List Env) (s : Shared) (H : Hp) (E : XK) (hr : Room 80 (A.deeper (envOfC "law" (defScope (topS 61)) s.heap.objs.size f cdv))) : MSs (bodyCx P w K mg base N_law "law" (topS 61) f cdv A outer s H E) (WE0 E) (defBody (topS 61)) B_law :=
      (mss_cons (ms_set (i := 1) sc_law.nd rfl (by first | exact Or.inl rfl | exact Or.inr rfl) (me_call (ok__law_pool T) hr (by decide) (passAt tkD) (by rfl) (ma_cons (me_var 0) ma_nil)))
      (mss_cons (ms_set (i := 2) sc_law.nd rfl (by first | exact Or.inl rfl | exact Or.inr rfl) (me_call (ok__law_m_square_proof T) hr (by decide) (passAt tkD) (by rfl) (ma_cons (me_ix (me_lst (ma_cons me_int (ma_cons me_int (ma_cons me_int (ma_cons me_int (ma_cons me_int ma_nil)))))) (me_call (ok__law_pick T) hr (by decide) (passAt tkD) (by rfl) (ma_cons (me_var 1) (ma_cons me_int ma_nil)))) ma_nil)))
      (mss_cons (ms_par2 (i := 3) (j := 4) rfl sc_law.nd rfl rfl (by decide) rfl rfl (ma_cons (me_ix (me_ix (me_ix (me_var 2) me_int) me_int) me_int) (ma_cons (me_call (ok__law_m_ratio T) hr (by decide) (passAt tkD) (by rfl) (ma_cons (me_call (ok__law_m_drawn_f T) hr (by decide) (passAt tkD) (by rfl) (ma_cons (me_var 1) ma_nil)) ma_nil)) ma_nil)) rfl)
      (mss_cons (ms_set (i := 5) sc_law.nd rfl (by first | exact Or.inl rfl | exact Or.inr rfl) (me_call (ok__law_m_plain_one T) hr (by decide) (passAt tkD) (by rfl) (ma_cons (me_var 1) (ma_cons me_int (ma_cons me_int ma_nil)))))
      (mss_cons (ms_set (i := 6) sc_law.nd rfl (by first | exact Or.inl rfl | exact Or.inr rfl) (me_lst (ma_cons (me_tup (ma_cons (me_tup (ma_cons me_str (ma_cons (me_var 4) ma_nil))) (ma_cons (me_tup (ma_cons me_str ma_nil)) ma_nil))) (ma_cons (me_tup (ma_cons (me_tup (ma_cons me_str (ma_cons (me_var 3) (ma_cons (me_tup (ma_cons me_str (ma_cons me_int (ma_cons (me_tup (ma_cons me_str (ma_cons (me_var 4) ma_nil))) ma_nil)))) ma_nil)))) (ma_cons (me_tup (ma_cons me_str (ma_cons me_int (ma_cons (me_tup (ma_cons me_int ma_nil)) (ma_cons me_non ma_nil))))) ma_nil))) (ma_cons (me_tup (ma_cons (me_tup (ma_cons me_str (ma_cons (me_var 5) ma_nil))) (ma_cons (me_tup (ma_cons me_str (ma_cons me_int (ma_cons me_int (ma_cons (me_tup (ma_cons (me_var 5) (ma_cons (me_tup (ma_cons me_int (ma_cons me_int ma_nil))) ma_nil))) ma_nil))))) ma_nil))) ma_nil)))))
      (mss_cons (ms_set (i := 6) sc_law.nd rfl (by first | exact Or.inl rfl | exact Or.inr rfl) (me_bin op_oAdd (me_var 6) (me_lst (ma_cons (me_tup (ma_cons (me_tup (ma_cons me_str (ma_cons (me_var 5) (ma_cons (me_neg me_int) (ma_cons (me_tup (ma_cons (me_tup (ma_cons (me_var 5) (ma_cons me_int ma_nil))) ma_nil)) ma_nil))))) (ma_cons (me_tup (ma_cons me_str (ma_cons (me_tup (ma_cons me_int ma_nil)) ma_nil))) ma_nil))) (ma_cons (me_tup (ma_cons (me_tup (ma_cons me_str (ma_cons (me_var 3) (ma_cons (me_var 4) ma_nil)))) (ma_cons (me_tup (ma_cons me_str (ma_cons me_int (ma_cons me_int (ma_cons me_int ma_nil))))) ma_nil))) (ma_cons (me_tup (ma_cons (me_tup (ma_cons me_str (ma_cons (me_var 5) ma_nil))) (ma_cons (me_tup (ma_cons me_str (ma_cons me_int (ma_cons (me_tup (ma_cons me_str (ma_cons (me_tup (ma_cons (me_neg me_int) (ma_cons me_int ma_nil))) ma_nil))) ma_nil)))) ma_nil))) ma_nil))))))
      (mss_cons (ms_set (i := 6) sc_law.nd rfl (by first | exact Or.inl rfl | exact Or.inr rfl) (me_bin op_oAdd (me_var 6) (me_lst (ma_cons (me_tup (ma_cons (me_bin op_oAdd (me_bin op_oAdd (me_tup (ma_cons me_str ma_nil)) (me_var 3)) (me_tup (ma_cons me_int ma_nil))) (ma_cons (me_tup (ma_cons me_str (ma_cons me_int (ma_cons me_int ma_nil)))) ma_nil))) ma_nil))))
      (mss_cons (ms_set (i := 7) sc_law.nd rfl (by first | exact Or.inl rfl | exact Or.inr rfl) (me_sl (me_var 2) mo_none (mo_some (me_call (ok__law_pick T) hr (by decide) (passAt tkD) (by rfl) (ma_cons (me_var 1) (ma_cons me_int ma_nil))))))
      (mss_cons (ms_for (passes_of rfl) rfl (mi_range1 (by rfl) T.z_range (ma_cons (me_call (ok__law_pick T) hr (by decide) (passAt tkD) (by rfl) (ma_cons (me_var 1) (ma_cons me_int ma_nil))) ma_nil)) (mg_name (i := 8) sc_law.nd rfl (by first | exact Or.inl rfl | exact Or.inr rfl)) (mss_one (ms_set (i := 7) sc_law.nd rfl (by first | exact Or.inl rfl | exact Or.inr rfl) (me_bin op_oAdd (me_var 7) (me_tup (ma_cons (me_ix (me_var 6) (me_call (ok__law_pick T) hr (by decide) (passAt tkD) (by rfl) (ma_cons (me_var 1) (ma_cons (me_callB cr_oLen (by rfl) T.z_len (by decide +kernel) (ma_cons (me_var 6) ma_nil)) ma_nil)))) ma_nil))))))
      (mss_cons (ms_set (i := 9) sc_law.nd rfl (by first | exact Or.inl rfl | exact Or.inr rfl) (me_call (ok__law_m_proof_text T) hr (by decide) (passAt tkD) (by rfl) (ma_cons (me_var 7) ma_nil)))
      (mss_cons (ms_if (mt_bool (mw_or (mt_cmp (op_oNe hr.units) (me_call (ok_write_proof T) hr (by decide) (passAt tkD) (by rfl) (ma_cons (me_var 7) ma_nil)) (me_var 9) (nomark _)) (mw_or1 (mt_not (mt_tru (me_call (ok__law_equal T (20)) hr (by decide) (passAt tkD) (by rfl) (ma_cons (me_call (ok__law_m_read T) hr (by decide) (passAt tkD) (by rfl) (ma_cons (me_var 9) ma_nil)) (ma_cons (me_lst (ma_cons me_str (ma_cons (me_var 7) ma_nil))) ma_nil)))))))) (mss_one (ms_ret me_bl)) mss_nil)
      (mss_cons (ms_for (passes_of rfl) rfl (mi_range1 (by rfl) T.z_range (ma_cons me_int ma_nil)) (mg_name (i := 8) sc_law.nd rfl (by first | exact Or.inl rfl | exact Or.inr rfl)) (mss_cons (ms_set (i := 10) sc_law.nd rfl (by first | exact Or.inl rfl | exact Or.inr rfl) (me_call (ok__law_pick T) hr (by decide) (passAt tkD) (by rfl) (ma_cons (me_var 1) (ma_cons (me_bin op_oAdd (me_callB cr_oLen (by rfl) T.z_len (by decide +kernel) (ma_cons (me_var 9) ma_nil)) me_int) ma_nil))))
      (mss_cons (ms_set (i := 11) sc_law.nd rfl (by first | exact Or.inl rfl | exact Or.inr rfl) (me_ix (me_lst (ma_cons me_str (ma_cons me_str (ma_cons me_str (ma_cons me_str (ma_cons me_str (ma_cons me_str (ma_cons me_str (ma_cons me_str (ma_cons me_str (ma_cons me_str ma_nil))))))))))) (me_call (ok__law_pick T) hr (by decide) (passAt tkD) (by rfl) (ma_cons (me_var 1) (ma_cons me_int ma_nil)))))
      (mss_one (ms_for (passes_of rfl) rfl (mi_seq (me_tup (ma_cons (me_bin op_oAdd (me_bin op_oAdd (me_sl (me_var 9) mo_none (mo_some (me_var 10))) (me_var 11)) (me_sl (me_var 9) (mo_some (me_var 10)) mo_none)) (ma_cons (me_bin op_oAdd (me_bin op_oAdd (me_sl (me_var 9) mo_none (mo_some (me_var 10))) (me_var 11)) (me_sl (me_var 9) (mo_some (me_bin op_oAdd (me_var 10) me_int)) mo_none)) (ma_cons (me_bin op_oAdd (me_sl (me_var 9) mo_none (mo_some (me_var 10))) (me_sl (me_var 9) (mo_some (me_bin op_oAdd (me_var 10) me_int)) mo_none)) ma_nil))))) (mg_name (i := 12) sc_law.nd rfl (by first | exact Or.inl rfl | exact Or.inr rfl)) (mss_cons (ms_set (i := 13) sc_law.nd rfl (by first | exact Or.inl rfl | exact Or.inr rfl) (me_call (ok__law_m_read T) hr (by decide) (passAt tkD) (by rfl) (ma_cons (me_var 12) ma_nil)))
      (mss_one (ms_if (mt_bool (mw_or (mt_bool (mw_and (mt_cmp (op_oEq hr.units) (me_ix (me_var 13) me_int) me_str (nomark _)) (mw_and1 (mt_bool (mw_or (mt_cmp (op_oNe hr.units) (me_call (ok__law_m_proof_text T) hr (by decide) (passAt tkD) (by rfl) (ma_cons (me_ix (me_var 13) me_int) ma_nil)) (me_var 12) (nomark _)) (mw_or1 (mt_not (mt_tru (me_call (ok_is_proof T) hr (by decide) (passAt tkD) (by rfl) (ma_cons (me_ix (me_var 13) me_int) ma_nil)))))))))) (mw_or1 (mt_bool (mw_and (mt_cmp (op_oEq hr.units) (me_ix (me_var 13) me_int) me_str (nomark _)) (mw_and1 (mt_cmp op_oIsNot (me_ix (me_var 13) me_int) me_bl (nomark _)))))))) (mss_one (ms_ret me_bl)) mss_nil))))))))
      (mss_cons (ms_set (i := 14) sc_law.nd rfl (by first | exact Or.inl rfl | exact Or.inr rfl) (me_lst (ma_cons me_str (ma_cons me_str (ma_cons me_str (ma_cons me_str (ma_cons me_str ma_nil)))))))
      (mss_cons (ms_set (i := 14) sc_law.nd rfl (by first | exact Or.inl rfl | exact Or.inr rfl) (me_bin op_oAdd (me_var 14) (me_lst (ma_cons me_str (ma_cons me_str (ma_cons me_str ma_nil))))))
      (mss_cons (ms_for (passes_of rfl) rfl (mi_seq (me_var 14)) (mg_name (i := 12) sc_law.nd rfl (by first | exact Or.inl rfl | exact Or.inr rfl)) (mss_one (ms_if (mt_cmp (op_oNe hr.units) (me_call (ok__law_m_read T) hr (by decide) (passAt tkD) (by rfl) (ma_cons (me_var 12) ma_nil)) (me_lst (ma_cons me_str (ma_cons me_bl ma_nil))) (nomark _)) (mss_one (ms_ret me_bl)) mss_nil)))
      (mss_one (ms_ret (me_and (me_cmp (op_oEq hr.units) (me_call (ok__law_m_read T) hr (by decide) (passAt tkD) (by rfl) (ma_cons me_str ma_nil)) (me_lst (ma_cons me_str (ma_cons (me_tup ma_nil) ma_nil))) (nomark _)) (me_one (me_cmp (op_oEq hr.units) (me_call (ok__law_m_read T) hr (by decide) (passAt tkD) (by rfl) (ma_cons me_str ma_nil)) (me_lst (ma_cons me_str (ma_cons (me_tup (ma_cons (me_tup (ma_cons (me_tup (ma_cons me_str (ma_cons (me_tup (ma_cons me_int (ma_cons me_int ma_nil))) ma_nil))) (ma_cons (me_tup (ma_cons me_str ma_nil)) ma_nil))) ma_nil)) ma_nil))) (nomark _)))))))))))))))))))))
end
end Z

set_option maxRecDepth 100000
set_option maxHeartbeats 4000000
set_option autoImplicit false
namespace Z
open PySem PySem.Spec PyProof.Rows L2
theorem wF_is_intD (d : D) (m : Mem) : wpE (F_is_int [d] m) fun r m1 => r = .bl (isIntD d) ∧ m1 = m := by
  refine wp_fn ?_
  cases d <;> simp [B_is_int, startE, isIntD]
theorem wF_common (a b : Int) (m : Mem) : wpE (F_common [.int a, .int b] m) fun d m1 => d = .int (Int.gcd a b) ∧ m1 = m := by
  refine wp_fn ?_
  simp only [B_common, startE, sSeq_app, sPar_app, wpS_thenS, pCons_app, pCall_app, pVar_app]
  simp [absI]
  refine wp_while (fun k e m1 => ∃ x y : Int, e = [some (.int x), some (.int y)] ∧ m1 = m ∧ k = y.natAbs ∧ 0 ≤ x ∧ 0 ≤ y ∧ Int.gcd x y = Int.gcd a b) ?_ _ b.natAbs _ _ ⟨_, _, rfl, rfl, by omega, by omega, by omega, by simp [Int.gcd]⟩ (by simp [evI])
  rintro k e m1 ⟨x, y, rfl, rfl, rfl, hx, hy, hg⟩
  simp
  by_cases h : 0 < y
  · have := fmodLt (a := x) (b := y) (by omega)
    have := Int.fmod_nonneg_of_pos x h
    have h0 : y ≠ 0 := by omega
    simp [h, h0]
    exact ⟨_, by omega, y, x.fmod y, ⟨rfl, rfl⟩, rfl, by omega, by omega, by rw [gcd_fmod, hg]⟩
  · simp [h]
    obtain rfl : y = 0 := by omega
    rw [← hg]
    simp [Int.gcd]
    omega
theorem wF_common_of (xs : List Int) (d : D) (m : Mem) (h : d = .lst (xs.map D.int) ∨ d = .tup (xs.map D.int)) : wpE (F_common_of [d] m) fun d m1 => d = .int (xs.foldl (fun a b => (Int.gcd a b : Int)) 0) ∧ m1 = m := by
  refine wp_fn ?_
  have key : ∀ (g : Int) (z : Option D), wpS (loopF (gN 2) (sSet 1 (pApp F_common 2 (pCons (pVar 1) (pCons (pVar 2) pNil)))) (xs.map D.int) [some d, some (.int g), z] m) (fun e m1 => wpE (rdV e[1]? m1) fun d m1 => d = .int (xs.foldl (fun a b => (Int.gcd a b : Int)) g) ∧ m1 = m) (fun d m1 => d = .int (xs.foldl (fun a b => (Int.gcd a b : Int)) g) ∧ m1 = m) := by
    clear h
    induction xs with
    | nil => intro g z; simp
    | cons x xs ih =>
      intro g z
      simp [loopF_cons]
      obtain ⟨_, m1, h1, rfl, rfl⟩ := (wF_common g x m).out
      simp [h1]
      exact ih _ _
  rcases h with rfl | rfl
  · simp [B_common_of, startE]
    exact key 0 none
  · simp [B_common_of, startE]
    exact key 0 none
theorem wF_is_fraction (d : D) (m : Mem) : wpE (F_is_fraction [d] m) fun r m1 => r = .bl (frD d) ∧ m1 = m := by
  refine wp_fn ?_
  cases d with
  | tup l =>
    rcases l with _ | ⟨a, _ | ⟨b, _ | ⟨c, t⟩⟩⟩
    · simp [B_is_fraction, startE, frD]
    · simp [B_is_fraction, startE, frD]
    · simp [B_is_fraction, startE, atI_0, atI_1]
      refine (wF_is_intD a m).mono ?_
      rintro _ m1 ⟨rfl, rfl⟩
      cases a with
      | int p =>
        simp [isIntD]
        refine (wF_is_intD b m1).mono ?_
        rintro _ m1 ⟨rfl, rfl⟩
        cases b with
        | int q =>
          simp [isIntD]
          by_cases hq : 0 < q
          · have h1 : 1 ≤ q := by omega
            simp [h1]
            refine (wF_common p q m1).mono ?_
            rintro _ m2 ⟨rfl, rfl⟩
            simp [frD, hq]
            try omega
          · have h1 : ¬ 1 ≤ q := by omega
            simp [h1, frD, hq]
        | _ => simp [isIntD, frD]
      | _ => simp [isIntD, frD]
    · have h : ¬ ((t.length : Int) + 1 + 1 + 1 = 2) := by omega
      simp [B_is_fraction, startE, frD, h]
  | _ => simp [B_is_fraction, startE, frD]
theorem wF_is_polynomial (d : D) (m : Mem) (hd : ∀ l, d = .tup l → l.length ≤ 100000) : wpE (F_is_polynomial [d] m) fun r m1 => r = .bl (isPolyD d) ∧ m1 = m := by
  refine wp_fn ?_
  cases d with
  | tup l =>
    have hl : l.length ≤ SL := slLe (by have := hd l rfl; omega)
    simp [B_is_polynomial, startE, pLc, pLcG_app, hl]
    refine (wp_lc (fun m1 => m1 = m) (fun _ => true) (fun d => .bl (isIntD d)) l m ?_ rfl).mono ?_
    · rintro d _ m1 rfl
      refine ⟨_, rfl, ?_⟩
      simp
      refine (wF_is_intD d m1).mono ?_
      rintro _ m2 ⟨rfl, rfl⟩
      exact ⟨rfl, rfl⟩
    · rintro ys m1 ⟨rfl, rfl⟩
      have ha : oAll [.lst ((l.filter fun _ => true).map fun d => .bl (isIntD d))] m1 = some (.bl (l.all isIntD)) := by
        rw [List.filter_eq_self.2 (fun _ _ => rfl)]
        simp only [oAll, asL, blsOf_map, List.all_map]; rfl
      simp only [ha, lift1_s, wpE_ok, oTru_bl, toOk_s, Bool.not_eq_eq_eq_not]
      by_cases hi : l.all isIntD = true
      · obtain ⟨xs, rfl⟩ := all_int hi
        rcases List.eq_nil_or_concat xs with rfl | ⟨zs, z, rfl⟩
        · simp [isPolyD, lastNz]
        · rw [List.concat_eq_append] at *
          have e : atI ((zs ++ [z]).map D.int) (-1) = some (.int z) := by rw [List.map_append]; exact atI_last _ _
          have hp : ¬ ((zs.length : Int) + 1 = 0) := by omega
          have e2 := lastNz_ints zs z
          simp [hi, e, hp, isPolyD, e2, -List.map_append]
          by_cases hz : z = 0 <;> simp [hz]
      · have hi : l.all isIntD = false := by simpa using hi
        simp [hi, isPolyD]
  | _ => simp [B_is_polynomial, startE, isPolyD]
theorem wF_content (f : List Int) (m : Mem) : wpE (F_content [.tup (f.map D.int)] m) fun r m1 => r = .int (cont f) ∧ m1 = m := by
  refine wp_fn ?_
  simp [B_content, startE]
  exact wF_common_of f _ m (.inr rfl)
def isPlB (f : List Int) : Bool := decide (2 ≤ f.length) && (decide (0 < co f (f.length - 1)) && decide (cont f = 1))
theorem wF_is_plain (f : List Int) (m : Mem) : wpE (F_is_plain [.tup (f.map D.int)] m) fun r m1 => r = .bl (isPlB f) ∧ m1 = m := by
  refine wp_fn ?_
  by_cases h : 2 ≤ f.length
  · have hf : f ≠ [] := fun e => by rw [e] at h; simp at h
    have h2 : (2 : Int) ≤ f.length := by omega
    by_cases h3 : 0 < co f (f.length - 1)
    · simp [B_is_plain, startE, h2, atI_lead hf, h3]
      refine (wF_content f m).mono ?_
      rintro _ m1 ⟨rfl, rfl⟩
      simp [isPlB, h, h3]
    · simp [B_is_plain, startE, h2, atI_lead hf, h3, isPlB]
  · have h2 : ¬ (2 : Int) ≤ f.length := by omega
    simp [B_is_plain, startE, h2, isPlB, h]
theorem wF_cell (ns : List Int) (k : Int) (m : Mem) (hk : 0 ≤ k) : wpE (F__law_cell [.ro (ns.map D.int), .int k] m) fun d m1 => (∃ c, d = .int c) ∧ m1 = m := by
  obtain ⟨k, rfl⟩ := Int.eq_ofNat_of_zero_le hk
  refine wp_fn ?_
  simp [B__law_cell, startE]
  by_cases h : k < ns.length
  · simp [h, atI_of_nat]
  · simp [h]
def IdrA (c : Int) (n : Nat) (e : Ev) (m1 : Mem) : Prop := ∃ (l : List Int) (left : Int) (i : Nat) (z z' : Option D), e = [some (.int c), some (.int 20), some (.loc i), some (.int left), z, z'] ∧ m1[i]? = some (.lst (l.map D.int)) ∧ l.length + n = 20 ∧ Sm l
def Idr (c : Int) (ds : List D) (e : Ev) (m1 : Mem) : Prop := IdrA c ds.length e m1 ∧ ∀ d ∈ ds, ∃ k : Int, d = .int k ∧ 0 ≤ k ∧ k < 20
theorem idr_go {c : Int} {ds : List D} {l : List Int} {m1 : Mem} {i : Nat} {k x left : Int} {zz : Option D} (hm : m1[i]? = some (.lst (l.map D.int))) (hl : l.length + (ds.length + 1) = 20) (hr : Sm l) (hd : ∀ d ∈ ds, ∃ k : Int, d = .int k ∧ 0 ≤ k ∧ k < 20) (h0 : 0 ≤ x ∧ x < 4096) :
    Idr c ds [some (.int c), some (.int 20), some (.loc i), some (.int left), some (.int k), zz] (m1.set i (.lst (l.map D.int ++ [.int x]))) := by
  refine ⟨⟨l ++ [x], left, i, _, _, rfl, ?_, by simp; omega, ?_⟩, hd⟩
  · rw [set_at hm]; simp
  · intro r h
    rcases List.mem_append.1 h with h | h
    · exact hr r h
    · simp at h; omega
theorem wF_draws (c : Int) (m : Mem) : wpE (F__law_draws [.int c, .int 20] m) fun d m1 => ∃ l : List Int, d = .lst (l.map D.int) ∧ l.length = 20 ∧ Sm l := by
  refine wp_fn ?_
  simp [B__law_draws, startE]
  refine wp_loop (Idr c) ?_ ?_ _ _ _ ⟨⟨[], c, m.length, none, none, rfl, by simp, by simp [intR_rng, rng_len], by simp [Sm]⟩, ?_⟩
  · rintro d ds e m1 ⟨⟨l, left, i, z, z', rfl, hm, hl, hr⟩, hd⟩
    obtain ⟨k, rfl, hk0, hk⟩ := hd _ (List.mem_cons_self ..)
    refine ⟨_, _, rfl, ?_⟩
    have hlen : (l.map D.int).length < SL := slLt (by simp at hl ⊢; omega)
    have hd' := fun d h => hd d (List.mem_cons_of_mem _ h)
    have h13 : mulFits 13 k = true := mulF_l (by decide)
    simp [oPow_int, mulF_r, divFits, oApp_at hm hlen, mulF_m, h13, show Nat.log2 4096 < 9000 by decide, show Nat.log2 7 < 9000 by decide]
    split
    · split
      · exact idr_go hm hl hr hd' (fmodN _ (by decide))
      · exact idr_go hm hl hr hd' (fmodN _ (by decide))
    · exact idr_go hm hl hr hd' (fmodN _ (by decide))
  · rintro e m1 ⟨⟨l, left, i, z, z', rfl, hm, hl, hr⟩, hd⟩
    simp at hl
    simp [frzD, hm]
    exact ⟨l, rfl, hl, hr⟩
  · intro d hd
    rw [intR_rng] at hd
    obtain ⟨k, hk, rfl⟩ := List.mem_map.1 hd
    exact ⟨k, rfl, by have := mem_rng.1 hk; omega⟩
theorem wF_kind (d : D) (m : Mem) : wpE (F__law_kind [d] m) fun r m1 => r = .int (kindN d) ∧ m1 = m := by
  refine wp_fn ?_
  cases d <;> simp [B__law_kind, startE, kindN]
theorem wF_equal {m : Mem} : ∀ (n : Nat) (x y : D), Sim m n x y → wpE (F__law_equal n [x, y] m) fun r m1 => r = .bl true ∧ m1 = m
  | 0, _, _, h => h.elim
  | n + 1, x, y, h => by
    refine wp_fn ?_
    have ki : kindN x = kindN y := by
      rcases h with ⟨h, _⟩ | ⟨l, r, _, _, h, _⟩
      · rw [h]
      · exact h
    simp [B__law_equal, startE, isi_tup, isi_lst, isi_dct]
    refine (wF_kind x m).mono ?_
    rintro _ m1 ⟨rfl, rfl⟩
    refine (wF_kind y m1).mono ?_
    rintro _ m2 ⟨rfl, rfl⟩
    simp [ki]
    rcases h with ⟨rfl, h⟩ | ⟨l, r, hx, hy, _, hl, hl6, hs⟩
    · cases x <;> first | (simp [kindN]; done) | cases h
    · have hk := seqO_k hy
      have hle : (r.length : Int) ≤ 1000000000 := by omega
      have hge : -1000000000 ≤ (r.length : Int) := by omega
      have hle2 : (intR 0 1 r.length).length ≤ SL := slLe (by simp [intR_rng, rng_len]; omega)
      have body : wpE (lcF (Tgt.n 3) (pNotT (pTru (pApp (F__law_equal n) 2 (pCons (pBin oIx (pVar 0) (pVar 3)) (pCons (pBin oIx (pVar 1) (pVar 3)) pNil))))) (pVar 3) [some x, some y, none, none, none] (intR 0 1 r.length) m2) (fun d m1 => d = [] ∧ m1 = m2) := by
        rw [intR_rng]
        refine (wp_lcI (fun _ => false) (fun x => x) _ ?_).mono ?_
        · intro i hi
          have hi := mem_rng.1 hi
          obtain ⟨j, rfl⟩ := Int.eq_ofNat_of_zero_le hi.1
          have hj : j < r.length := by omega
          have hj2 : j < l.length := by omega
          simp [seqO_ix hx, seqO_ix hy, atI_of_nat, List.getElem?_eq_getElem hj, List.getElem?_eq_getElem hj2]
          refine (wF_equal n _ _ (hs j _ _ (List.getElem?_eq_getElem hj2) (List.getElem?_eq_getElem hj))).mono ?_
          rintro _ m1 ⟨rfl, rfl⟩
          simp
        · rintro ys m1 ⟨rfl, rfl⟩
          simp
      rcases hk with hk | hk <;> (simp [hk, seqO_len hx, seqO_len hy, hl, pLcG_app, pLc, hle, hge, hle2]; exact body)
def Ipo (s : D) (ds : List D) (e : Ev) (m1 : Mem) : Prop := ∃ (l : List Int) (z : Option D), e = [some s, some (.lst (l.map D.int)), z] ∧ l.length + 20 * ds.length ≤ 80 ∧ Sm l ∧ (l ≠ [] ∨ ds ≠ []) ∧ ∀ d ∈ ds, ∃ k : Int, d = .int k ∧ 0 ≤ k
theorem wF_pool (ns : List Int) (m : Mem) : wpE (F__law_pool [.ro (ns.map D.int)] m) fun d m1 => Pool d 0 m1 := by
  refine wp_fn ?_
  obtain ⟨n, hn, h1, h4⟩ : ∃ n : Nat, (if (if 1 < (ns.length : Int) then (ns.length : Int) else 1) < 4 then if 1 < (ns.length : Int) then (ns.length : Int) else 1 else 4) = n ∧ 1 ≤ n ∧ n ≤ 4 := by
    by_cases a : (1 : Int) < ns.length
    · rw [if_pos a]
      by_cases b : (ns.length : Int) < 4
      · rw [if_pos b]; exact ⟨ns.length, rfl, by omega, by omega⟩
      · rw [if_neg b]; exact ⟨4, rfl, by omega, by omega⟩
    · rw [if_neg a]
      exact ⟨1, rfl, by omega, by omega⟩
  have h62 : (n : Int) ≤ 1000000000 := by omega
  have h63 : -1000000000 ≤ (n : Int) := by omega
  simp [B__law_pool, startE, hn, h62, h63]
  refine wp_loop (Ipo (.ro (ns.map D.int))) ?_ ?_ _ _ _ ⟨[], none, rfl, ?_, by simp [Sm], ?_, ?_⟩
  · rintro d ds e m1 ⟨l, z, rfl, hl, hr, hn, hd⟩
    obtain ⟨k, rfl, hk0⟩ := hd _ (List.mem_cons_self ..)
    refine ⟨_, _, rfl, ?_⟩
    simp
    refine (wF_cell ns k m1 hk0).mono ?_
    rintro _ m2 ⟨⟨c, rfl⟩, rfl⟩
    simp [mulF_l]
    refine (wF_draws _ m2).mono ?_
    rintro _ m3 ⟨l', rfl, h20, hs⟩
    simp at hl
    simp
    refine ⟨slLe (by omega), l ++ l', _, by simp; rfl, by simp; omega, ?_, .inl (by intro h; simp at h; simp [h] at h20), fun d h => hd d (List.mem_cons_of_mem _ h)⟩
    intro r h
    rcases List.mem_append.1 h with h | h
    · exact hr r h
    · exact hs r h
  · rintro e m1 ⟨l, z, rfl, hl, hr, hn, hd⟩
    simp
    exact ⟨l, m1.length, rfl, by simp, by simpa using hn, by simpa using hl, hr⟩
  · simp [intR_rng, rng_len]
    omega
  · refine .inr fun h => ?_
    have := congrArg List.length h
    simp [intR_rng, rng_len] at this
    omega
  · intro d hd
    rw [intR_rng] at hd
    obtain ⟨k, hk, rfl⟩ := List.mem_map.1 hd
    exact ⟨k, rfl, by have := mem_rng.1 hk; omega⟩
theorem wF_pick {p : D} {k : Nat} {m : Mem} (n : Int) (hp : Pool p k m) (hk : k < 1000000) (hn : 0 < n) : wpE (F__law_pick [p, .int n] m) fun d m1 => (∃ x : Int, d = .int x ∧ 0 ≤ x ∧ x < n) ∧ Pool p (k + 1) m1 := by
  obtain ⟨l, i, rfl, hm, hl, hl8, hr⟩ := hp
  refine wp_fn ?_
  have hll : (0 : Int) < l.length := by
    have := List.length_pos_iff.2 hl
    omega
  have hdk := Int.fdiv_nonneg (a := (k : Int)) (b := l.length) (by omega) (by omega)
  have hdf : divFits l.length = true := divF (n := 20) (by decide) (by omega) (by omega)
  have hmk := fmodN (k : Int) hll
  obtain ⟨x, hx, e⟩ := atI_mem (l := l) hmk.1 hmk.2
  have hn0 : n ≠ 0 := by omega
  have h2 := set_at (c' := .lst [.int (k + 1)]) hm
  have hmf : mulFits ((k : Int).fdiv l.length) 1009 = true := mulF_r (by decide)
  have hle : (k : Int).fdiv l.length ≤ k := by
    rw [Int.fdiv_eq_ediv_of_nonneg _ (by omega)]
    exact Int.ediv_le_self _ (by omega)
  have hmg : mulFits ((k : Int).fdiv l.length) k = true := mulF_l (by omega)
  have e0 : l.length ≠ 0 := by omega
  simp [B__law_pick, startE, oIx, asL, hm, putAt, atI_0, atI_1, hdf, show ixN 1 0 = some 0 by decide, e, hn0, hmf, hmg, e0]
  exact ⟨fmodN _ hn, l, i, rfl, h2, hl, hl8, hr⟩
theorem wp_picks {p : D} {v j : Nat} {q : Int} (hq : 0 < q) (hv : v ≠ j) : ∀ (ds : List D) (e : Ev) (m : Mem) (k : Nat), e[j]? = some (some p) → Pool p k m → k + ds.length < 100000 → wpE (lcF (.n v) tYesF (pApp F__law_pick 2 (pCons (pVar j) (pCons (pC (.int q)) pNil))) e ds m) fun ys m1 => ∃ xs : List Int, ys = xs.map D.int ∧ xs.length = ds.length ∧ (∀ x ∈ xs, 0 ≤ x ∧ x < q) ∧ Pool p (k + ds.length) m1 := by
  intro ds
  induction ds with
  | nil => intro e m k _ h _; rw [lcF_nil, wpE_ok]; exact ⟨[], rfl, rfl, by simp, h⟩
  | cons d ds ih =>
    intro e m k h0 h hk
    rw [List.length_cons] at hk
    rw [lcF_cons]
    have g0 : (e.set v (some d))[j]? = some (some p) := by rw [List.getElem?_set_ne hv]; exact h0
    obtain ⟨_, m2, e2, ⟨x, rfl, x0, x1⟩, h2⟩ := (wF_pick q h (by omega) hq).out
    simp [g0, e2]
    obtain ⟨_, m3, e3, xs, rfl, hxl, hxs, h3⟩ := (ih e m2 (k + 1) h0 h2 (by omega)).out
    simp [e3]
    refine ⟨x :: xs, by simp, by simp [hxl], ?_, by rw [show k + (ds.length + 1) = k + 1 + ds.length by omega]; exact h3⟩
    intro y hy
    rcases List.mem_cons.1 hy with rfl | hy
    · exact ⟨x0, x1⟩
    · exact hxs y hy
theorem wp_picksC {p : D} {v j : Nat} {q c : Int} (hq : 0 < q) (hv : v ≠ j) : ∀ (ds : List D) (e : Ev) (m : Mem) (k : Nat), e[j]? = some (some p) → Pool p k m → k + ds.length < 100000 → wpE (lcF (.n v) tYesF (pBin oSub2 (pApp F__law_pick 2 (pCons (pVar j) (pCons (pC (.int q)) pNil))) (pC (.int c))) e ds m) fun ys m1 => ∃ xs : List Int, ys = xs.map D.int ∧ xs.length = ds.length ∧ (∀ x ∈ xs, -c ≤ x ∧ x < q - c) ∧ Pool p (k + ds.length) m1 := by
  intro ds
  induction ds with
  | nil => intro e m k _ h _; rw [lcF_nil, wpE_ok]; exact ⟨[], rfl, rfl, by simp, h⟩
  | cons d ds ih =>
    intro e m k h0 h hk
    rw [List.length_cons] at hk
    rw [lcF_cons]
    have g0 : (e.set v (some d))[j]? = some (some p) := by rw [List.getElem?_set_ne hv]; exact h0
    obtain ⟨_, m2, e2, ⟨x, rfl, x0, x1⟩, h2⟩ := (wF_pick q h (by omega) hq).out
    simp [g0, e2]
    obtain ⟨_, m3, e3, xs, rfl, hxl, hxs, h3⟩ := (ih e m2 (k + 1) h0 h2 (by omega)).out
    simp [e3]
    refine ⟨(x - c) :: xs, by simp, by simp [hxl], ?_, by rw [show k + (ds.length + 1) = k + 1 + ds.length by omega]; exact h3⟩
    intro y hy
    rcases List.mem_cons.1 hy with rfl | hy
    · omega
    · exact hxs y hy
theorem wF_m_gcd (a b : Int) (m : Mem) : wpE (F__law_m_gcd [.int a, .int b] m) fun d m1 => d = .int (Int.gcd a b) ∧ m1 = m := by
  refine wp_fn ?_
  simp [B__law_m_gcd, startE, absI]
  refine wp_while (fun k e m1 => ∃ x y : Int, e = [some (.int x), some (.int y)] ∧ m1 = m ∧ k = y.natAbs ∧ 0 ≤ x ∧ 0 ≤ y ∧ Int.gcd x y = Int.gcd a b) ?_ _ b.natAbs _ _ ⟨_, _, rfl, rfl, by omega, by omega, by omega, by simp [Int.gcd]⟩ (by simp [evI])
  rintro k e m1 ⟨x, y, rfl, rfl, rfl, hx, hy, hg⟩
  simp
  by_cases h : 0 < y
  · have := fmodLt (a := x) (b := y) (by omega)
    have := Int.fmod_nonneg_of_pos x h
    have h0 : y ≠ 0 := by omega
    simp [h, h0]
    exact ⟨_, by omega, y, x.fmod y, ⟨rfl, rfl⟩, rfl, by omega, by omega, by rw [gcd_fmod, hg]⟩
  · obtain rfl : y = 0 := by omega
    rw [← hg]
    simp [Int.gcd]
    omega
theorem wF_m_f (p q : Int) (m : Mem) {a : Nat} (hq : q ≠ 0) (hb : q.natAbs < 2 ^ a) (ha : a ≤ 8000) : wpE (F__law_m_f [.int p, .int q] m) fun d m1 => d = rD ((p : Rat) / (q : Rat)) ∧ m1 = m := by
  refine wp_fn ?_
  have hs := divF ha (frS_ne (p := p) hq) (frS_bits hq hb)
  have hr := rD_frac (p := p) hq
  by_cases h : q < 0
  · have e : frS p q = -(Int.gcd p q : Int) := if_neg (by omega)
    rw [e] at hs hr
    simp [B__law_m_f, startE]
    refine (wF_m_gcd p q m).mono ?_
    rintro _ m1 ⟨rfl, rfl⟩
    simp [h, hs, hr]
  · have e : frS p q = Int.gcd p q := if_pos (by omega)
    rw [e] at hs hr
    simp [B__law_m_f, startE]
    refine (wF_m_gcd p q m).mono ?_
    rintro _ m1 ⟨rfl, rfl⟩
    simp [h, hs, hr]
theorem wF_m_drawn_f {p : D} {k : Nat} {m : Mem} (hp : Pool p k m) (hk : k < 10000) : wpE (F__law_m_drawn_f [p] m) fun d m1 => ∃ r : Rat, d = rD r ∧ RB 3 r ∧ Pool p (k + 2) m1 := by
  refine wp_fn ?_
  simp [B__law_m_drawn_f, startE]
  refine (wF_pick 13 hp (by omega) (by decide)).mono ?_
  rintro _ m1 ⟨⟨x, rfl, x0, x1⟩, h1⟩
  simp
  refine (wF_pick 5 h1 (by omega) (by decide)).mono ?_
  rintro _ m2 ⟨⟨y, rfl, y0, y1⟩, h2⟩
  have hy : ∃ q : Int, atI [D.int 1, D.int 1, D.int 2, D.int 3, D.int 4] y = some (.int q) ∧ 0 < q ∧ q < 8 := by
    have : y = 0 ∨ y = 1 ∨ y = 2 ∨ y = 3 ∨ y = 4 := by omega
    rcases this with rfl | rfl | rfl | rfl | rfl
    · exact ⟨1, rfl, by decide, by decide⟩
    · exact ⟨1, rfl, by decide, by decide⟩
    · exact ⟨2, rfl, by decide, by decide⟩
    · exact ⟨3, rfl, by decide, by decide⟩
    · exact ⟨4, rfl, by decide, by decide⟩
  obtain ⟨q, e, q0, q1⟩ := hy
  simp [e]
  refine (wF_m_f (x - 6) q m2 (a := 3) (by omega) (by omega) (by decide)).mono ?_
  rintro _ m3 ⟨rfl, rfl⟩
  exact ⟨_, rfl, RB.frac (by omega) (by omega) (by omega), h2⟩
def Imt (d : D) (xs : List Int) (m : Mem) (k : Nat) (e : Ev) (m1 : Mem) : Prop := ∃ (ys : List Int) (i : Nat), e = [some d, some (.loc i)] ∧ m1[i]? = some (.lst (ys.map D.int)) ∧ m.length ≤ i ∧ trim ys = trim xs ∧ Keep m m1 ∧ k = ys.length
theorem wF_m_trim {d : D} {xs : List Int} {m : Mem} (h : seqO m d = some (xs.map D.int)) (hl : xs.length ≤ 100000) : wpE (F__law_m_trim [d] m) fun r m1 => r = .tup ((trim xs).map D.int) ∧ Keep m m1 := by
  refine wp_fn ?_
  simp [B__law_m_trim, startE, seqO_listL h]
  refine wp_while (Imt d xs m) ?_ _ xs.length _ _ ⟨xs, m.length, rfl, by simp, by omega, rfl, Keep.push _ _, rfl⟩ (by unfold fuel0; omega)
  rintro k e m1 ⟨ys, i, rfl, hi, hmi, ht, hk, rfl⟩
  have htup : oTuple [.loc i] m1 = some (.tup (ys.map D.int)) := by simp only [oTuple, asL, hi]
  have hne := oNe_loc0 hi
  rcases List.eq_nil_or_concat ys with rfl | ⟨zs, z, rfl⟩
  · simp [hne, htup]
    exact ⟨by rw [← ht]; rfl, hk⟩
  · rw [List.concat_eq_append] at *
    have hix : oIx (.loc i) (.int (-1)) m1 = some (.int z) := by simp only [oIx, asL, hi]; rw [List.map_append]; exact atI_last _ _
    have hpop : oPop i m1 = some (.ok (.int z) (m1.set i (.lst (zs.map D.int)))) := by rw [List.map_append] at hi; exact oPop_at hi
    by_cases hz : z = 0
    · simp [hne, hix, hpop, hz]
      subst hz
      exact ⟨zs.length, by simp, zs, i, rfl, set_at hi, hmi, by rw [← ht, trim_snoc0], hk.set hmi _, rfl⟩
    · simp [hne, hix, hz, htup]
      exact ⟨by rw [← ht, trim_snoc _ hz]; simp, hk⟩
theorem wF_m_content (f : List Int) (m : Mem) : wpE (F__law_m_content [.tup (f.map D.int)] m) fun r m1 => r = .int (cont f) ∧ m1 = m := by
  refine wp_fn ?_
  have key : ∀ (xs : List Int) (g : Int) (d z : Option D), wpS (loopF (gN 2) (sSet 1 (pApp F__law_m_gcd 2 (pCons (pVar 1) (pCons (pVar 2) pNil)))) (xs.map D.int) [d, some (.int g), z] m) (fun e m1 => wpE (rdV e[1]? m1) fun d m1 => d = .int (xs.foldl (fun a b => (Int.gcd a b : Int)) g) ∧ m1 = m) (fun d m1 => d = .int (xs.foldl (fun a b => (Int.gcd a b : Int)) g) ∧ m1 = m) := by
    intro xs
    induction xs with
    | nil => intro g d z; simp
    | cons x xs ih =>
      intro g d z
      simp [loopF_cons]
      obtain ⟨_, m1, h1, rfl, rfl⟩ := (wF_m_gcd g x m).out
      simp [h1]
      exact ih _ _ _
  simp [B__law_m_content, startE]
  exact key f 0 _ none
theorem wF_m_plain (f : List Int) (m : Mem) {a : Nat} (tf : trim f = f) (bf : Bd a f) (ha : a ≤ 8000) (hl : f.length ≤ 100000) : wpE (F__law_m_plain [.tup (f.map D.int)] m) fun r m1 => r = mpD f ∧ m1 = m := by
  refine wp_fn ?_
  have e0 := oEq_tup0 f m
  by_cases hf : f = []
  · subst hf
    simp [B__law_m_plain, startE, mpD, show oEq (.tup []) (.tup []) m = some (.bl true) from e0]
  · have hs0 := mpS_ne tf hf
    have hsb : (mpS f).natAbs < 2 ^ a := by
      have h1 := mpS_dvd f (f.length - 1)
      have h2 := Int.natAbs_dvd_natAbs.2 h1
      have h3 := Nat.le_of_dvd (by have := trim_last tf hf; omega) h2
      have := bf (f.length - 1)
      omega
    have hdf : divFits (mpS f) = true := divF (n := a) ha hs0 hsb
    have hle : f.length ≤ SL := slLe (by omega)
    have fin : wpE (lcF (.n 2) tYesF (pBin oDiv (pVar 2) (pVar 1)) [some (.tup (f.map D.int)), some (.int (mpS f)), none] (f.map D.int) m) fun ys m1 => ys = (mpR f).map D.int ∧ m1 = m := by
      refine (wp_lcI (fun _ => true) (fun y => y.fdiv (mpS f)) f ?_).mono ?_
      · intro y hy
        simp [hdf]
      · rintro ys m1 ⟨rfl, rfl⟩
        rw [List.filter_eq_self.2 (fun _ _ => rfl)]
        exact ⟨rfl, rfl⟩
    have hct := wF_m_content f m
    have hl0 := trim_last tf hf
    by_cases h3 : 0 < co f (f.length - 1)
    · have e : mpS f = cont f := if_pos h3
      have h4 : ¬ co f (f.length - 1) < 0 := by omega
      rw [e] at fin
      simp [B__law_m_plain, startE, hf, e0]
      refine hct.mono ?_
      rintro _ m1 ⟨rfl, rfl⟩
      simp [pLc, pLcG_app, hle, atI_lead hf, h4]
      refine fin.mono ?_
      rintro _ m2 ⟨rfl, rfl⟩
      simp [mpD, hf, e, tupI, oTuple, asL]
    · have e : mpS f = -cont f := if_neg h3
      have h4 : co f (f.length - 1) < 0 := by omega
      rw [e] at fin
      simp [B__law_m_plain, startE, hf, e0]
      refine hct.mono ?_
      rintro _ m1 ⟨rfl, rfl⟩
      simp [pLc, pLcG_app, hle, atI_lead hf, h4]
      refine fin.mono ?_
      rintro _ m2 ⟨rfl, rfl⟩
      simp [mpD, hf, e, tupI, oTuple, asL]
theorem wF_m_poly {p : D} {k : Nat} {m : Mem} (n : Nat) (s : Int) (hp : Pool p k m) (hk : k + n < 50000) (hn : n ≤ 1000) (h1 : 1 ≤ s) (h2 : s ≤ 1000) : wpE (F__law_m_poly [p, .int n, .int s] m) fun d m1 => ∃ f : List Int, d = .tup (f.map D.int) ∧ trim f = f ∧ f.length = n + 1 ∧ (∀ x ∈ f, x.natAbs ≤ 1000) ∧ 0 < co f n ∧ ∃ k', k' ≤ k + n + 1 ∧ Pool p k' m1 := by
  refine wp_fn ?_
  have key : ∀ (ds : List D) (e : Ev) (m : Mem) (k : Nat), e[0]? = some (some p) → e[2]? = some (some (.int s)) → Pool p k m → k + ds.length < 100000 → wpE (lcF (.n 4) tYesF (pBin oSub2 (pApp F__law_pick 2 (pCons (pVar 0) (pCons (pBin oAdd (pBin oMul (pC (.int 2)) (pVar 2)) (pC (.int 1))) pNil))) (pVar 2)) e ds m) fun ys m1 => ∃ xs : List Int, ys = xs.map D.int ∧ xs.length = ds.length ∧ (∀ x ∈ xs, -s ≤ x ∧ x ≤ s) ∧ Pool p (k + ds.length) m1 := by
    intro ds
    induction ds with
    | nil => intro e m k _ _ h _; rw [lcF_nil, wpE_ok]; exact ⟨[], rfl, rfl, by simp, h⟩
    | cons d ds ih =>
      intro e m k h0 hs h hk
      rw [List.length_cons] at hk
      rw [lcF_cons]
      have g0 : (e.set 4 (some d))[0]? = some (some p) := by rw [List.getElem?_set_ne (by decide)]; exact h0
      have g2 : (e.set 4 (some d))[2]? = some (some (.int s)) := by rw [List.getElem?_set_ne (by decide)]; exact hs
      have mu : mulFits 2 s = true := mulF_l (by decide)
      obtain ⟨_, m2, e2, ⟨x, rfl, x0, x1⟩, h2⟩ := (wF_pick (2 * s + 1) h (by omega) (by omega)).out
      simp [g0, g2, mu, e2]
      obtain ⟨_, m3, e3, xs, rfl, hxl, hxs, h3⟩ := (ih e m2 (k + 1) h0 hs h2 (by omega)).out
      simp [e3]
      refine ⟨(x - s) :: xs, by simp, by simp [hxl], ?_, by rw [show k + (ds.length + 1) = k + 1 + ds.length by omega]; exact h3⟩
      intro y hy
      rcases List.mem_cons.1 hy with rfl | hy
      · omega
      · exact hxs y hy
  have b1 : (n : Int) ≤ 1000000000 := by omega
  have b2 : -1000000000 ≤ (n : Int) := by omega
  have hlen : (intR 0 1 n).length = n := by simp [intR_rng, rng_len]
  have b3 : (intR 0 1 n).length ≤ SL := slLe (by omega)
  simp [B__law_m_poly, startE, pLc, pLcG_app, b1, b2, b3]
  refine (key (intR 0 1 n) [some p, some (.int n), some (.int s), none, none] m k rfl rfl hp (by omega)).mono ?_
  rintro _ m2 ⟨xs, rfl, hxl, hxs, h2'⟩
  rw [hlen] at hxl h2'
  simp
  refine (wF_pick s h2' (by omega) (by omega)).mono ?_
  rintro _ m3 ⟨⟨x, rfl, x0, x1⟩, h3⟩
  have s1 : xs.length + 1 ≤ SL := slLe (by omega)
  simp [s1]
  refine (wF_m_trim (d := .lst _) (xs := xs ++ [1 + x]) (by simp [seqO, asL]) (by simp; omega)).mono ?_
  rintro _ m4 ⟨rfl, hk4⟩
  have hx : 1 + x ≠ 0 := by omega
  rw [trim_snoc _ hx]
  refine ⟨xs ++ [1 + x], rfl, trim_snoc _ hx, by simp [hxl], ?_, ?_, k + n + 1, by omega, h3.keep hk4⟩
  · intro y hy
    rcases List.mem_append.1 hy with h | h
    · have := hxs y h; omega
    · rw [List.mem_singleton.1 h]; omega
  · rw [co_app_r (by omega), hxl, Nat.sub_self]
    show 0 < 1 + x
    omega
theorem wF_m_plain_one {p : D} {k : Nat} {m : Mem} (n : Nat) (s : Int) (hp : Pool p k m) (hk : k + n < 50000) (hn : n ≤ 1000) (hn1 : 1 ≤ n) (h1 : 1 ≤ s) (h2 : s ≤ 1000) : wpE (F__law_m_plain_one [p, .int n, .int s] m) fun d m1 => ∃ f : List Int, d = .tup (f.map D.int) ∧ trim f = f ∧ f.length = n + 1 ∧ isPlB f = true ∧ Bd 10 f ∧ ∃ k', k' ≤ k + n + 1 ∧ Pool p k' m1 := by
  refine wp_fn ?_
  simp [B__law_m_plain_one, startE]
  refine (wF_m_poly n s hp hk hn h1 h2).mono ?_
  rintro _ m1 ⟨f, rfl, tf, lf, bf, hc, k', hk', h3⟩
  have hne : f ≠ [] := fun e => by rw [e] at lf; simp at lf
  have bd : Bd 10 f := Bd.of fun x hx => by have := bf x hx; omega
  refine (wF_m_plain f m1 tf bd (by decide) (by omega)).mono ?_
  rintro _ m2 ⟨rfl, rfl⟩
  simp [mpD, hne, tupI, atI_1]
  refine ⟨mpR f, rfl, mpR_trim tf hne, by rw [mpR_len, lf], ?_, bd_mpR tf hne bd, k', hk', h3⟩
  have l1 := mpR_lead tf hne
  unfold isPlB
  rw [mpR_len, cont_mpR tf hne, lf] at *
  rw [decide_eq_true (by omega), decide_eq_true l1]; rfl
end Z

set_option maxRecDepth 100000
set_option maxHeartbeats 2000000
set_option autoImplicit false
namespace Z
open PySem PySem.Spec PyProof.Rows L2
theorem oSl_tup (l : List D) (lo hi : Option Int) (m : Mem) : oSl (.tup l) lo hi m = some (.tup (cutD l lo hi)) := rfl
def polyI (d : D) : Option (List Int) := match d with
  | .tup l => intsOf l
  | _ => none
def lessD : D → D → Bool
  | .tup [.int p, .int q], .tup [.int r, .int s] => decide (p * s < r * q)
  | _, _ => false
def eqPr : D → D → Bool
  | .tup [.int p, .int q], .tup [.int r, .int s] => decide (p = r) && decide (q = s)
  | _, _ => false
def rowNm (xs : List Int) : D → Bool
  | .tup [.int p, .int q] => decide (xs = [-p, q])
  | _ => false
def nameD : D → Bool
  | .tup [f, a, b] => isPolyD f && (match polyI f with
    | some xs => isPlB xs && (frD a && (frD b && (if xs.length = 2 then rowNm xs a && eqPr a b else lessD a b)))
    | none => false)
  | _ => false
theorem polyI_of {f : D} (h : isPolyD f = true) : ∃ xs : List Int, f = .tup (xs.map D.int) ∧ polyI f = some xs := by
  cases f with
  | tup l =>
    simp only [isPolyD, Bool.and_eq_true] at h
    obtain ⟨xs, rfl⟩ := all_int h.1
    exact ⟨xs, rfl, intsOf_map xs⟩
  | _ => simp [isPolyD] at h
theorem frD_of {d : D} (h : frD d = true) : ∃ p q : Int, d = .tup [.int p, .int q] := by
  unfold frD at h
  split at h
  · exact ⟨_, _, rfl⟩
  · cases h
theorem oEq_pr (p q r s : Int) (m : Mem) : oEq (.tup [.int p, .int q]) (.tup [.int r, .int s]) m = some (.bl (decide (p = r) && decide (q = s))) := by
  have := oEq_tup [p, q] [r, s] m
  simp at this
  rw [this]
theorem wF_is_name (d : D) (m : Mem) {k L : Nat} (hd : Ok Ab L k d) (hL : L ≤ 1000) : wpE (F_is_name [d] m) fun r m1 => r = .bl (nameD d) ∧ m1 = m := by
  refine wp_fn ?_
  cases d with
  | tup l =>
    rcases l with _ | ⟨f, _ | ⟨a, _ | ⟨b, _ | ⟨c, t⟩⟩⟩⟩
    · simp [B_is_name, startE, nameD]
    · simp [B_is_name, startE, nameD]
    · simp [B_is_name, startE, nameD]
    · obtain ⟨_, j, rfl, hx⟩ := hd.tup
      simp [B_is_name, startE, atI_0]
      refine (wF_is_polynomial f m (fun l e => by subst e; have := (hx (.tup l) (by simp)).tup.1; omega)).mono ?_
      rintro _ m1 ⟨rfl, rfl⟩
      by_cases hf : isPolyD f = true
      · obtain ⟨xs, rfl, hxs⟩ := polyI_of hf
        simp [hf]
        refine (wF_is_plain xs m1).mono ?_
        rintro _ m2 ⟨rfl, rfl⟩
        by_cases hp : isPlB xs = true
        · simp [hp]
          refine (wF_is_fraction a m2).mono ?_
          rintro _ m3 ⟨rfl, rfl⟩
          by_cases ha : frD a = true
          · obtain ⟨p, q, rfl⟩ := frD_of ha
            simp [ha]
            refine (wF_is_fraction b m3).mono ?_
            rintro _ m4 ⟨rfl, rfl⟩
            by_cases hb : frD b = true
            · obtain ⟨r, s, rfl⟩ := frD_of hb
              simp [hb, atI_0, atI_1]
              obtain ⟨_, j1, rfl, hx1⟩ := (hx (.tup [.int p, .int q]) (by simp)).tup
              obtain ⟨_, j2, e2, hx2⟩ := (hx (.tup [.int r, .int s]) (by simp)).tup
              cases e2
              have m1' := ab_mul (Ok.int.1 (hx1 (.int p) (by simp))) (Ok.int.1 (hx2 (.int s) (by simp)))
              have m2' := ab_mul (Ok.int.1 (hx2 (.int r) (by simp))) (Ok.int.1 (hx1 (.int q) (by simp)))
              by_cases h2 : xs.length = 2
              · have h2' : (xs.length : Int) = 2 := by omega
                have e1 := fun m => oEq_tup xs [-p, q] m
                simp at e1
                simp [h2', e1, oEq_pr]
                by_cases hq : xs = [-p, q]
                · have dq := eq_true hq
                  simp [dq, nameD, hf, hxs, hp, ha, hb, h2, rowNm, eqPr]
                · simp [hq, nameD, hf, hxs, hp, ha, hb, h2, rowNm]
              · have h2' : ¬ (xs.length : Int) = 2 := by omega
                simp [h2']
                refine wp_fn ?_
                simp [B_below, startE, atI_0, atI_1, m1', m2', nameD, hf, hxs, hp, ha, hb, h2, lessD]
            · simp [hb, nameD, hf, hxs, hp, ha]
          · simp [ha, nameD, hf, hxs, hp]
        · simp [hp, nameD, hf, hxs]
      · simp [hf, nameD]
    · have h : ¬ ((t.length : Int) + 1 + 1 + 1 + 1 = 3) := by omega
      simp [B_is_name, startE, nameD, h]
  | _ => simp [B_is_name, startE, nameD]
def treeF : Nat → D → Bool
  | 0, _ => false
  | n + 1, .tup (.str w :: r) => if w = "name" then (match r with | [x] => nameD x | _ => false)
    else if (decide (w = "plus") || decide (w = "times")) = true then (match r with | [a, b] => treeF n a && treeF n b | _ => false)
    else if (decide (w = "negative") || decide (w = "inverse")) = true then (match r with | [a] => treeF n a | _ => false)
    else decide (w = "root") && (match r with | [.int i, b] => decide (2 ≤ i) && (decide (i ≤ 6) && treeF n b) | _ => false)
  | _ + 1, _ => false
theorem treeF_stable {A : D → Prop} {L : Nat} : ∀ (k n n' : Nat) (d : D), Ok A L k d → k < n → k < n' → treeF n d = treeF n' d := by
  intro k
  induction k with
  | zero =>
    intro n n' d hd h1 h2
    obtain ⟨a, rfl⟩ : ∃ a, n = a + 1 := ⟨n - 1, by omega⟩
    obtain ⟨b, rfl⟩ : ∃ b, n' = b + 1 := ⟨n' - 1, by omega⟩
    cases d with
    | tup l => exact hd.elim
    | _ => rfl
  | succ k ih =>
    intro n n' d hd h1 h2
    obtain ⟨a, rfl⟩ : ∃ a, n = a + 1 := ⟨n - 1, by omega⟩
    obtain ⟨b, rfl⟩ : ∃ b, n' = b + 1 := ⟨n' - 1, by omega⟩
    cases d with
    | tup l =>
      have hx := hd.2
      cases l with
      | nil => rfl
      | cons c r =>
        cases c with
        | str w =>
          have e : ∀ x ∈ r, treeF a x = treeF b x := fun x h => ih a b x (hx x (List.mem_cons_of_mem _ h)) (by omega) (by omega)
          rcases r with _ | ⟨u, _ | ⟨v, _ | ⟨c, t⟩⟩⟩
          · rfl
          · simp only [treeF, e u (by simp)]
          · cases u <;> simp only [treeF, e _ (List.mem_cons_self ..), e v (by simp)]
          · cases u <;> rfl
        | _ => rfl
    | _ => rfl
theorem wF_is_tree {L : Nat} (hL : L ≤ 1000) : ∀ (n k : Nat) (d : D) (m : Mem), Ok Ab L k d → k < n → wpE (F_is_tree n [d] m) fun r m1 => r = .bl (treeF n d) ∧ m1 = m := by
  intro n
  induction n with
  | zero => intro k d m _ h; omega
  | succ n ih =>
    intro k d m hd hk
    refine wp_fn ?_
    cases d with
    | tup l =>
      cases l with
      | nil => simp [B_is_tree, startE, treeF]
      | cons a r =>
        obtain ⟨hrl, j, rfl, hx'⟩ := hd.tup
        have hx : ∀ x ∈ r, Ok Ab L j x := fun x h => hx' x (List.mem_cons_of_mem _ h)
        by_cases hr : r = []
        · subst hr
          cases a <;> simp [B_is_tree, startE, treeF]
        have hrp := List.length_pos_iff.2 hr
        have hl2 : ¬ ((r.length : Int) + 1 < 2) := by omega
        cases a with
        | str w =>
          have hws : PyData.strOk w = true := Ok.str.1 (hx' (.str w) (by simp))
          have cut := cutD_1 (.str w) r
          have i1 := fun m => oIn_str2 w "plus" "times" m hws (strOk_of _) (strOk_of _)
          have i2 := fun m => oIn_str2 w "negative" "inverse" m hws (strOk_of _) (strOk_of _)
          by_cases h1 : w = "name"
          · have d1 := eq_true h1
            rcases r with _ | ⟨b, _ | ⟨c, t⟩⟩
            · exact absurd rfl hr
            · simp [B_is_tree, startE, oSl_tup, cut, atI_0, oEq_str, d1, treeF]
              exact wF_is_name b m (hx b (by simp)) hL
            · have h : ¬ ((t.length : Int) + 1 + 1 = 1) := by omega
              simp at hl2
              simp [B_is_tree, startE, oSl_tup, cut, atI_0, oEq_str, d1, treeF, h, hl2]
              try omega
          by_cases h2 : (decide (w = "plus") || decide (w = "times")) = true
          · rcases r with _ | ⟨b, _ | ⟨c, _ | ⟨e, t⟩⟩⟩
            · exact absurd rfl hr
            · simp only [treeF, if_neg h1, if_pos h2]
              simp [-Bool.or_eq_true, B_is_tree, startE, oSl_tup, cut, atI_0, oEq_str, h1, i1, h2]
            · simp only [treeF, if_neg h1, if_pos h2]
              simp [-Bool.or_eq_true, B_is_tree, startE, oSl_tup, cut, atI_0, atI_1, oEq_str, h1, i1, h2]
              refine (ih j b m (hx b (by simp)) (by omega)).mono ?_
              rintro _ m1 ⟨rfl, rfl⟩
              cases hb : treeF n b with
              | false => simp
              | true =>
                simp
                exact ih j c m1 (hx c (by simp)) (by omega)
            · have h : ¬ ((t.length : Int) + 1 + 1 + 1 = 2) := by omega
              simp only [treeF, if_neg h1, if_pos h2]
              simp at hl2
              simp [-Bool.or_eq_true, B_is_tree, startE, oSl_tup, cut, atI_0, oEq_str, h1, i1, h2, h, hl2]
              try omega
          by_cases h3 : (decide (w = "negative") || decide (w = "inverse")) = true
          · rcases r with _ | ⟨b, _ | ⟨c, t⟩⟩
            · exact absurd rfl hr
            · simp only [treeF, if_neg h1, if_neg h2, if_pos h3]
              simp [-Bool.or_eq_true, B_is_tree, startE, oSl_tup, cut, atI_0, oEq_str, h1, i1, h2, i2, h3]
              exact ih j b m (hx b (by simp)) (by omega)
            · have h : ¬ ((t.length : Int) + 1 + 1 = 1) := by omega
              simp only [treeF, if_neg h1, if_neg h2, if_pos h3]
              simp at hl2
              simp [-Bool.or_eq_true, B_is_tree, startE, oSl_tup, cut, atI_0, oEq_str, h1, i1, h2, i2, h3, h, hl2]
              try omega
          by_cases h4 : w = "root"
          · have d4 := eq_true h4
            rcases r with _ | ⟨b, _ | ⟨c, _ | ⟨e, t⟩⟩⟩
            · exact absurd rfl hr
            · simp only [treeF, if_neg h1, if_neg h2, if_neg h3]
              simp [-Bool.or_eq_true, B_is_tree, startE, oSl_tup, cut, atI_0, oEq_str, h1, i1, h2, i2, h3, d4]
            · simp [-Bool.or_eq_true, B_is_tree, startE, oSl_tup, cut, atI_0, atI_1, oEq_str, h1, i1, h2, i2, h3, d4]
              refine (wF_is_intD b m).mono ?_
              rintro _ m1 ⟨rfl, rfl⟩
              cases b with
              | int i =>
                simp only [treeF, if_neg h1, if_neg h2, if_neg h3]
                by_cases hi : 2 ≤ i
                · by_cases hj : i ≤ 6
                  · simp [isIntD, hi, hj, d4]
                    exact ih j c m1 (hx c (by simp)) (by omega)
                  · simp [isIntD, hi, hj]
                · simp [isIntD, hi]
              | _ =>
                simp only [treeF, if_neg h1, if_neg h2, if_neg h3]
                simp [isIntD]
            · have h : ¬ ((t.length : Int) + 1 + 1 + 1 = 2) := by omega
              simp only [treeF, if_neg h1, if_neg h2, if_neg h3]
              simp at hl2
              simp [-Bool.or_eq_true, B_is_tree, startE, oSl_tup, cut, atI_0, oEq_str, h1, i1, h2, i2, h3, d4, h, hl2]
              try omega
          · simp only [treeF, if_neg h1, if_neg h2, if_neg h3]
            simp [-Bool.or_eq_true, B_is_tree, startE, oSl_tup, cut, atI_0, oEq_str, h1, i1, h2, i2, h3, h4, hl2]
        | _ => simp [B_is_tree, startE, treeF, atI_0, hl2]
    | _ => simp [B_is_tree, startE, treeF]
end Z

set_option maxRecDepth 100000
set_option maxHeartbeats 2000000
set_option autoImplicit false
namespace Z
open PySem PySem.Spec PyProof.Rows L2
theorem toPyL_strs : ∀ ss : List Str, toPyL (ss.map D.str) = some (ss.map PyData.str)
  | [] => rfl
  | s :: ss => by simp only [List.map_cons, toPyL, toPy, toPyL_strs ss]
theorem lay_strs : ∀ {ss : List Str}, (∀ s ∈ ss, PyData.strOk s = true) → PyData.canLayAll0 (ss.map PyData.str) = true
  | [], _ => rfl
  | s :: ss, h => by
    simp only [List.map_cons, PyData.canLayAll0, PyData.canLay0, h s (List.mem_cons_self ..), lay_strs fun s hs => h s (List.mem_cons_of_mem _ hs)]; rfl
theorem any_strs (w : Str) : ∀ ss : List Str, (ss.map PyData.str).any (fun y => PyData.eqv y (.str w)) = ss.any fun s => decide (w = s)
  | [] => rfl
  | s :: ss => by
    simp only [List.map_cons, List.any_cons, any_strs w ss, PyData.eqv, beq_dec]
    rw [dec_comm]
theorem oInB_strs {w : Str} {ss : List Str} (hw : PyData.strOk w = true) (h : ∀ s ∈ ss, PyData.strOk s = true) (m : Mem) : oInB (.str w) (.tup (ss.map D.str)) m = some (ss.any fun s => decide (w = s)) := by
  unfold oInB
  simp only [deref, toPy, toPyL_strs, inL, any_strs, lay_strs h, PyData.canLay0, hw, PyData.depth]
  simp
theorem oIn_strs {w : Str} {ss : List Str} (hw : PyData.strOk w = true) (h : ∀ s ∈ ss, PyData.strOk s = true) (m : Mem) : oIn (.str w) (.tup (ss.map D.str)) m = some (.bl (ss.any fun s => decide (w = s))) := by
  unfold oIn; rw [oInB_strs hw h]; rfl
theorem oNotIn_strs {w : Str} {ss : List Str} (hw : PyData.strOk w = true) (h : ∀ s ∈ ss, PyData.strOk s = true) (m : Mem) : oNotIn (.str w) (.tup (ss.map D.str)) m = some (.bl (!(ss.any fun s => decide (w = s)))) := by
  unfold oNotIn; rw [oInB_strs hw h]; rfl
def plD (d : D) : Bool := isPolyD d && (match polyI d with
  | some xs => isPlB xs
  | none => false)
def pairD : D → Bool
  | .tup [g, .int e] => plD g && decide (1 ≤ e)
  | _ => false
def rowOf : D → List Int
  | .tup (g :: _) => (polyI g).getD []
  | _ => []
def ascD (l : List D) (k : Nat) : Bool := keyLt (rowOf (l.getD k .non)).length (rowOf (l.getD k .non)) (rowOf (l.getD (k + 1) .non)).length (rowOf (l.getD (k + 1) .non))
def partsD : D → Bool
  | .tup l => l.all pairD && (List.range (l.length - 1)).all (ascD l)
  | _ => false
theorem pairD_of {d : D} (h : pairD d = true) : ∃ (xs : List Int) (e : Int), d = .tup [.tup (xs.map D.int), .int e] ∧ rowOf d = xs := by
  unfold pairD at h
  split at h
  · rename_i g e
    rw [Bool.and_eq_true] at h
    unfold plD at h
    rw [Bool.and_eq_true] at h
    obtain ⟨xs, rfl, hx⟩ := polyI_of h.1.1
    exact ⟨xs, e, rfl, by simp only [rowOf, hx]; rfl⟩
  · cases h
def keyOf : D → D
  | .tup (.tup gl :: _) => .tup [.int gl.length, .tup gl]
  | d => d
theorem oLtK_key {x y : D} (hx : pairD x = true) (hy : pairD y = true) (m : Mem) : oLtK (keyOf x) (keyOf y) m = some (.bl (keyLt (rowOf x).length (rowOf x) (rowOf y).length (rowOf y))) := by
  obtain ⟨xs, e, rfl, ex⟩ := pairD_of hx
  obtain ⟨ys, e', rfl, ey⟩ := pairD_of hy
  rw [ex, ey]
  simp only [keyOf, oLtK, intsOf_map, List.length_map]
/-- the rows' keys, compared -/
theorem keys_lc {l : List D} (h : l.all pairD = true) (hl : l.length ≤ 1000) (e : Ev) (m : Mem) (he : 4 < e.length) : wpE (lcF (.t [3, 4]) tYesF (pTup (pCons (pCall oLen (pCons (pVar 3) pNil)) (pCons (pVar 3) pNil))) e l m) fun ys m1 => ys = l.map keyOf ∧ m1 = m := by
  refine (wp_lc (fun m1 => m1 = m) (fun _ => true) keyOf l m ?_ rfl).mono fun ys m1 q => ⟨by rw [q.1, List.filter_eq_self.2 (fun _ _ => rfl)], q.2⟩
  rintro d hd m1 rfl
  obtain ⟨xs, e', rfl, _⟩ := pairD_of (List.all_eq_true.1 h d hd)
  refine ⟨_, rfl, ?_⟩
  have g3 : ((e.set 3 (some (D.tup (xs.map D.int)))).set 4 (some (.int e')))[3]? = some (some (.tup (xs.map D.int))) := by
    rw [List.getElem?_set_ne (by decide), List.getElem?_set_self (by omega)]
  simp [g3, keyOf]
theorem key_at {l : List D} {k : Nat} (hk : k < l.length) : atI (l.map keyOf) (k : Int) = some (keyOf (l.getD k .non)) ∧ l.getD k .non ∈ l := by
  rw [atI_of_nat, List.getElem?_map, List.getElem?_eq_getElem hk, List.getD_eq_getElem?_getD, List.getElem?_eq_getElem hk]
  exact ⟨rfl, List.getElem_mem _⟩
theorem asc_at {l : List D} (h : l.all pairD = true) {k : Nat} (hk : k + 1 < l.length) (m : Mem) : oLtK (keyOf (l.getD k .non)) (keyOf (l.getD (k + 1) .non)) m = some (.bl (ascD l k)) :=
  oLtK_key (List.all_eq_true.1 h _ (key_at (by omega)).2) (List.all_eq_true.1 h _ (key_at hk).2) m
def allD (p : D → Bool) : List D → Bool
  | [] => true
  | x :: l => p x && allD p l
theorem allD_eq (p : D → Bool) : ∀ l, allD p l = l.all p
  | [] => rfl
  | x :: l => by rw [allD, allD_eq p l, List.all_cons]
def ascP (l : List D) : D → Bool
  | .int i => ascD l i.toNat
  | _ => true
theorem ascP_all (l : List D) (n : Nat) : (intR 0 1 n).all (ascP l) = (List.range n).all (ascD l) := by
  unfold intR
  rw [List.all_map]
  congr 1
  funext k
  show ascD l (0 + (k : Int) * 1).toNat = _
  congr 1
  omega
theorem all_lc2 (f : D → Bool) (l : List D) (m : Mem) : oAll [.lst (l.map fun d => .bl (f d))] m = some (.bl (l.all f)) := by
  simp only [oAll, asL, blsOf_map, List.all_map]; rfl
theorem asc_step {l : List D} (h : l.all pairD = true) {d : D} (hd : d ∈ intR 0 1 (l.length - 1)) : ∃ k : Nat, d = .int k ∧ k + 1 < l.length := by
  unfold intR at hd
  obtain ⟨k, hk, rfl⟩ := List.mem_map.1 hd
  have := List.mem_range.1 hk
  exact ⟨k, by congr 1; omega, by omega⟩
theorem wF_is_parts (d : D) (m : Mem) {k L : Nat} (hd : Ok Ab L k d) (hL : L ≤ 1000) : wpE (F_is_parts [d] m) fun r m1 => r = .bl (partsD d) ∧ m1 = m := by
  refine wp_fn ?_
  cases d with
  | tup l =>
    obtain ⟨hl, j, rfl, hx⟩ := hd.tup
    have key : ∀ (t : List D) (z : Option D), (∀ x ∈ t, Ok Ab L j x) → wpS (loopF (gN 1) (sSeq (sIf (pOrT (pNotT (pTru (pUn (oIsi "tuple") (pVar 1)))) (pOrT (pTst (pBin oNe (pCall oLen (pCons (pVar 1) pNil)) (pC (.int 2)))) (pOrT (pNotT (pTru (pApp F_is_polynomial 1 (pCons (pBin oIx (pVar 1) (pC (.int 0))) pNil)))) (pNotT (pTru (pApp F_is_plain 1 (pCons (pBin oIx (pVar 1) (pC (.int 0))) pNil))))))) (sRet (pC (.bl false))) sNop)
  (sIf (pOrT (pNotT (pTru (pApp F_is_int 1 (pCons (pBin oIx (pVar 1) (pC (.int 1))) pNil)))) (pTst (pBin oLt (pBin oIx (pVar 1) (pC (.int 1))) (pC (.int 1))))) (sRet (pC (.bl false))) sNop)) t [some (.tup l), z, none, none, none, none] m)
        (fun e m1 => ((∃ z : Option D, e = [some (.tup l), z, none, none, none, none]) ∧ allD pairD t = true) ∧ m1 = m) (fun r m1 => (r = .bl false ∧ allD pairD t = false) ∧ m1 = m) := by
      intro t
      induction t with
      | nil => intro z _; rw [loopF_nil, wpS_nx]; exact ⟨⟨⟨z, rfl⟩, rfl⟩, rfl⟩
      | cons x t ih =>
        intro z ht
        have hx := ht x (List.mem_cons_self ..)
        have ih := ih (some x) fun y hy => ht y (List.mem_cons_of_mem _ hy)
        cases x with
        | tup u =>
          rcases u with _ | ⟨g, _ | ⟨e, _ | ⟨c, u⟩⟩⟩
          · simp [loopF_cons, pairD, allD]
          · simp [loopF_cons, pairD, allD]
          · obtain ⟨_, j2, rfl, hx2⟩ := hx.tup
            simp [loopF_cons, atI_0, atI_1]
            obtain ⟨_, m1, e1, rfl, rfl⟩ := (wF_is_polynomial g m (fun l e => by subst e; have := (hx2 (.tup l) (by simp)).tup.1; omega)).out
            simp [e1]
            by_cases hg : isPolyD g = true
            · obtain ⟨xs, rfl, hxs⟩ := polyI_of hg
              obtain ⟨_, m2, e2, rfl, rfl⟩ := (wF_is_plain xs m1).out
              simp [hg, e2]
              by_cases hp : isPlB xs = true
              · obtain ⟨_, m3, e3, rfl, rfl⟩ := (wF_is_intD e m2).out
                simp [hp, atI_0, atI_1, e3]
                cases e with
                | int i =>
                  by_cases hi : i < 1
                  · have hi2 : ¬ 1 ≤ i := by omega
                    simp [isIntD, hi, pairD, hi2, allD]
                  · have hi2 : 1 ≤ i := by omega
                    simp [isIntD, hi, pairD, hi2, plD, hg, hxs, hp, allD]
                    simpa using ih
                | _ => simp [isIntD, pairD, allD]
              · simp [hp]
                cases e <;> simp [pairD, plD, hg, hxs, hp, allD]
            · simp [hg]
              cases e <;> simp [pairD, plD, hg, allD]
          · have h : ¬ ((u.length : Int) + 1 + 1 + 1 = 2) := by omega
            simp [loopF_cons, h, pairD, allD]
        | _ => simp [loopF_cons, pairD, allD]
    simp [B_is_parts, startE]
    refine (key l none hx).mono ?_ ?_
    · rintro e m1 ⟨⟨⟨z, rfl⟩, ha⟩, rfl⟩
      rw [allD_eq] at ha
      have hsl : l.length ≤ SL := slLe (by omega)
      simp [pLc, pLcG_app, hsl]
      refine (keys_lc ha (by omega) _ m1 (by simp)).mono ?_
      rintro ys m2 ⟨rfl, rfl⟩
      have b1 : (l.length : Int) - 1 ≤ 1000000000 := by omega
      have b2 : -1000000000 ≤ (l.length : Int) - 1 := by omega
      have b3 : ((l.length : Int) - 1).toNat = l.length - 1 := by omega
      have b4 : (intR 0 1 (l.length - 1)).length ≤ SL := slLe (by simp [intR_rng, rng_len]; omega)
      simp [b1, b2, b3, b4]
      refine (wp_lc (fun m3 => m3 = m2) (fun _ => true) (fun d => .bl (ascP l d)) _ m2 ?_ rfl).mono ?_
      · rintro d hdl m2 rfl
        obtain ⟨k, rfl, hk⟩ := asc_step ha hdl
        refine ⟨_, rfl, ?_⟩
        have k1 := (key_at (l := l) (k := k) (by omega)).1
        have k2 := (key_at (l := l) (k := k + 1) hk).1
        have ek : (k : Int) + 1 = ((k + 1 : Nat) : Int) := by omega
        have es := asc_at ha hk m2
        rw [← ek] at k2
        simp [-List.getD_eq_getElem?_getD, k1, k2, es, ascP]
      · rintro ys m2 ⟨rfl, rfl⟩
        rw [List.filter_eq_self.2 (fun _ _ => rfl)]
        simp only [all_lc2, lift1_s, wpE_ok, ascP_all, partsD, ha, Bool.true_and]
        trivial
    · rintro r m1 ⟨⟨rfl, ha⟩, rfl⟩
      rw [allD_eq] at ha
      simp only [partsD, ha, Bool.false_and]
      trivial
  | _ => simp [B_is_parts, startE, partsD]
end Z

set_option maxRecDepth 100000
set_option maxHeartbeats 2000000
set_option autoImplicit false
namespace Z
open PySem PySem.Spec PyProof.Rows L2
def strIs (s : Str) : D → Bool
  | .str w => decide (w = s)
  | _ => false
theorem oEq_strD {d : D} {s : Str} {L k : Nat} (hd : Ok At L k d) (hk : k ≤ 60) (hs : PyData.strOk s = true) (m : Mem) : oEq d (.str s) m = some (.bl (strIs s d)) := by
  obtain ⟨p, h1, h2, h3⟩ := Ok.py hd
  have sh : SeqAt.shaped p = true := by
    simp only [SeqAt.shaped, h2, Bool.true_and]
    exact decide_eq_true (by omega)
  have sh2 : SeqAt.shaped (.str s) = true := by simp [SeqAt.shaped, PyData.canLay0, hs, PyData.depth]
  have nl : ∀ i, d ≠ .loc i := fun i e => by subst e; cases k <;> exact hd.elim
  have dr : deref m d = d := by cases d <;> first | rfl | exact absurd rfl (nl _)
  cases d with
  | str w => rfl
  | int i => rfl
  | non => rfl
  | loc i => exact absurd rfl (nl i)
  | bl b =>
    show toBl (oEqD m (.bl b) (.str s)) = _
    unfold oEqD
    rw [dr]
    cases h1
    simp only [deref, toPy, sh, sh2]
    simp [PyData.eqv, toBl, strIs]
  | tup l =>
    show toBl (oEqD m (.tup l) (.str s)) = _
    unfold oEqD
    rw [dr]
    simp only [toPy] at h1
    split at h1
    · rename_i l' hl'
      cases h1
      simp only [deref, toPy, hl', sh, sh2]
      simp [PyData.eqv, toBl, strIs]
    · cases h1
  | lst l =>
    show toBl (oEqD m (.lst l) (.str s)) = _
    unfold oEqD
    rw [dr]
    simp only [toPy] at h1
    split at h1
    · rename_i l' hl'
      cases h1
      simp only [deref, toPy, hl', sh, sh2]
      simp [PyData.eqv, toBl, strIs]
    · cases h1
  | ro l => cases k <;> exact hd.elim
def countD : List D → Bool
  | [f, a, b, c] => plD f && (frD a && (frD b && (lessD a b && nnD c)))
  | _ => false
def statementD : D → Bool
  | .tup (.str w :: r) =>
    if w = "unpartable" then (match r with | [f] => plD f | _ => false)
    else if w = "parts" then (match r with | [f, e, p] => isPolyD f && (isIntD e && partsD p) | _ => false)
    else if w = "count" then countD r
    else if w = "named" then (match r with | [n] => nameD n | _ => false)
    else if (decide (w = "equal") || (decide (w = "apart") || decide (w = "below"))) = true then (match r with | [a, b] => nameD a && nameD b | _ => false)
    else decide (w = "is") && (match r with | [a, t] => nameD a && treeF 70 t | _ => false)
  | _ => false
theorem wF_is_count (r : List D) (m : Mem) {k L : Nat} (hx : ∀ x ∈ r, Ok Ab L k x) (hL : L ≤ 1000) (h4 : r.length = 4) : wpE (F_is_count [.tup r] m) fun b m1 => b = .bl (countD r) ∧ m1 = m := by
  refine wp_fn ?_
  rcases r with _ | ⟨f, _ | ⟨a, _ | ⟨b, _ | ⟨c, _ | ⟨e, t⟩⟩⟩⟩⟩ <;> simp at h4
  simp [B_is_count, startE]
  refine (wF_is_polynomial f m (fun l e => by subst e; have := (hx (.tup l) (by simp)).tup.1; omega)).mono ?_
  rintro _ m1 ⟨rfl, rfl⟩
  by_cases hf : isPolyD f = true
  · obtain ⟨xs, rfl, hxs⟩ := polyI_of hf
    simp [hf]
    refine (wF_is_plain xs m1).mono ?_
    rintro _ m2 ⟨rfl, rfl⟩
    by_cases hp : isPlB xs = true
    · simp [hp]
      refine (wF_is_fraction a m2).mono ?_
      rintro _ m3 ⟨rfl, rfl⟩
      by_cases ha : frD a = true
      · obtain ⟨p, q, rfl⟩ := frD_of ha
        simp [ha]
        refine (wF_is_fraction b m3).mono ?_
        rintro _ m4 ⟨rfl, rfl⟩
        by_cases hb : frD b = true
        · obtain ⟨r, s, rfl⟩ := frD_of hb
          obtain ⟨_, j1, rfl, hx1⟩ := (hx (.tup [.int p, .int q]) (by simp)).tup
          obtain ⟨_, j2, e2, hx2⟩ := (hx (.tup [.int r, .int s]) (by simp)).tup
          cases e2
          have m1' := ab_mul (Ok.int.1 (hx1 (.int p) (by simp))) (Ok.int.1 (hx2 (.int s) (by simp)))
          have m2' := ab_mul (Ok.int.1 (hx2 (.int r) (by simp))) (Ok.int.1 (hx1 (.int q) (by simp)))
          have bel : wpE (F_below [.tup [.int p, .int q], .tup [.int r, .int s]] m4) fun d m1 => d = .bl (decide (p * s < r * q)) ∧ m1 = m4 := by
            refine wp_fn ?_
            simp [B_below, startE, atI_0, atI_1, m1', m2']
          simp [hb]
          refine bel.mono ?_
          rintro _ m5 ⟨rfl, rfl⟩
          by_cases hlt : p * s < r * q
          · simp [hlt]
            refine (wF_is_intD c m5).mono ?_
            rintro _ m6 ⟨rfl, rfl⟩
            cases c <;> simp [isIntD, countD, plD, hf, hxs, hp, ha, hb, lessD, hlt, nnD]
          · simp [hlt, countD, lessD]
        · simp [hb, countD]
      · simp [ha, countD]
    · simp [hp, countD, plD, hxs]
  · simp [hf, countD, plD]

theorem wF_is_statement (d : D) (m : Mem) {k L : Nat} (hd : Ok Ab L k d) (hk : k ≤ 60) (hL : L ≤ 1000) : wpE (F_is_statement [d] m) fun b m1 => b = .bl (statementD d) ∧ m1 = m := by
  refine wp_fn ?_
  cases d with
  | tup l =>
    cases l with
    | nil => simp [B_is_statement, startE, statementD]
    | cons a r =>
      by_cases hr : r = []
      · subst hr
        cases a with
        | str w => simp [B_is_statement, startE, statementD, countD]
        | _ => simp [B_is_statement, startE, statementD]
      have hrp := List.length_pos_iff.2 hr
      have hl2 : ¬ ((r.length : Int) + 1 < 2) := by omega
      cases a with
      | str w =>
        have cut := cutD_1 (.str w) r
        obtain ⟨hrl, j, rfl, hx'⟩ := hd.tup
        have hx : ∀ x ∈ r, Ok Ab L j x := fun x h => hx' x (List.mem_cons_of_mem _ h)
        have hws : PyData.strOk w = true := Ok.str.1 (hx' (.str w) (by simp))
        have hpo : ∀ x ∈ r, ∀ l, x = .tup l → l.length ≤ 100000 := fun x h l e => by subst e; have := (hx _ h).tup.1; omega
        have i3 : ∀ m, oIn (.str w) (.tup [.str "equal", .str "apart", .str "below"]) m = some (.bl (decide (w = "equal") || (decide (w = "apart") || decide (w = "below")))) := fun m => by
          have := oIn_strs (ss := ["equal", "apart", "below"]) hws (fun s h => by
            simp only [List.mem_cons, List.not_mem_nil, or_false] at h
            rcases h with rfl | rfl | rfl <;> exact strOk_of _) m
          simp only [List.map_cons, List.map_nil, List.any_cons, List.any_nil, Bool.or_false] at this
          exact this
        by_cases h1 : w = "unpartable"
        · have d1 := eq_true h1
          rcases r with _ | ⟨f, _ | ⟨b, t⟩⟩
          · exact absurd rfl hr
          · simp [B_is_statement, startE, oSl_tup, cut, statementD, atI_0, oEq_str, d1]
            refine (wF_is_polynomial f m (hpo f (by simp))).mono ?_
            rintro _ m1 ⟨rfl, rfl⟩
            by_cases hf : isPolyD f = true
            · obtain ⟨xs, rfl, hxs⟩ := polyI_of hf
              simp [hf, plD, hxs]
              exact wF_is_plain xs m1
            · simp [hf, plD]
          · have h : ¬ ((t.length : Int) + 1 + 1 = 1) := by omega
            simp at hl2
            simp [B_is_statement, startE, oSl_tup, cut, statementD, atI_0, oEq_str, d1, h, hl2]
            try omega
        by_cases h2 : w = "parts"
        · have d2 := eq_true h2
          rcases r with _ | ⟨f, _ | ⟨b, _ | ⟨c, _ | ⟨e, t⟩⟩⟩⟩
          · exact absurd rfl hr
          · simp [B_is_statement, startE, oSl_tup, cut, statementD, atI_0, oEq_str, h1, d2]
          · simp [B_is_statement, startE, oSl_tup, cut, statementD, atI_0, oEq_str, h1, d2]
          · have e2 : atI [f, b, c] 2 = some c := rfl
            simp [B_is_statement, startE, oSl_tup, cut, statementD, atI_0, atI_1, e2, oEq_str, h1, d2]
            refine (wF_is_polynomial f m (hpo f (by simp))).mono ?_
            rintro _ m1 ⟨rfl, rfl⟩
            by_cases hf : isPolyD f = true
            · simp [hf]
              refine (wF_is_intD b m1).mono ?_
              rintro _ m2 ⟨rfl, rfl⟩
              by_cases hb : isIntD b = true
              · simp [hb]
                exact wF_is_parts c m2 (hx c (by simp)) hL
              · simp [hb]
            · simp [hf]
          · have h : ¬ ((t.length : Int) + 1 + 1 + 1 + 1 = 3) := by omega
            simp at hl2
            simp [B_is_statement, startE, oSl_tup, cut, statementD, atI_0, oEq_str, h1, d2, h, hl2]
            try omega
        by_cases h3 : w = "count"
        · have d3 := eq_true h3
          by_cases h4 : r.length = 4
          · have h4' : (r.length : Int) = 4 := by omega
            simp [B_is_statement, startE, oSl_tup, cut, statementD, atI_0, oEq_str, h1, h2, d3, h4']
            exact wF_is_count r m hx hL h4
          · have h4' : ¬ (r.length : Int) = 4 := by omega
            have hc : countD r = false := by
              unfold countD
              split
              · simp at h4
              · rfl
            simp [B_is_statement, startE, oSl_tup, cut, statementD, atI_0, oEq_str, h1, h2, d3, h4', hc, hl2]
        by_cases h5 : w = "named"
        · have d5 := eq_true h5
          rcases r with _ | ⟨f, _ | ⟨b, t⟩⟩
          · exact absurd rfl hr
          · simp [B_is_statement, startE, oSl_tup, cut, statementD, atI_0, oEq_str, h1, h2, h3, d5]
            exact wF_is_name f m (hx f (by simp)) hL
          · have h : ¬ ((t.length : Int) + 1 + 1 = 1) := by omega
            simp at hl2
            simp [B_is_statement, startE, oSl_tup, cut, statementD, atI_0, oEq_str, h1, h2, h3, d5, h, hl2]
            try omega
        by_cases h6 : (decide (w = "equal") || (decide (w = "apart") || decide (w = "below"))) = true
        · rcases r with _ | ⟨f, _ | ⟨b, _ | ⟨c, t⟩⟩⟩
          · exact absurd rfl hr
          · simp only [statementD, if_neg h1, if_neg h2, if_neg h3, if_neg h5, if_pos h6]
            simp [-Bool.or_eq_true, B_is_statement, startE, oSl_tup, cut, atI_0, oEq_str, h1, h2, h3, h5, i3, h6]
          · simp only [statementD, if_neg h1, if_neg h2, if_neg h3, if_neg h5, if_pos h6]
            simp [-Bool.or_eq_true, B_is_statement, startE, oSl_tup, cut, atI_0, atI_1, oEq_str, h1, h2, h3, h5, i3, h6]
            refine (wF_is_name f m (hx f (by simp)) hL).mono ?_
            rintro _ m1 ⟨rfl, rfl⟩
            by_cases hf : nameD f = true
            · simp [hf]
              exact wF_is_name b m1 (hx b (by simp)) hL
            · simp [hf]
          · have h : ¬ ((t.length : Int) + 1 + 1 + 1 = 2) := by omega
            simp at hl2
            simp only [statementD, if_neg h1, if_neg h2, if_neg h3, if_neg h5, if_pos h6]
            simp [-Bool.or_eq_true, B_is_statement, startE, oSl_tup, cut, atI_0, oEq_str, h1, h2, h3, h5, i3, h6, h, hl2]
            try omega
        by_cases h7 : w = "is"
        · have d7 := eq_true h7
          simp only [statementD, if_neg h1, if_neg h2, if_neg h3, if_neg h5, if_neg h6]
          rcases r with _ | ⟨f, _ | ⟨b, _ | ⟨c, t⟩⟩⟩
          · exact absurd rfl hr
          · simp [-Bool.or_eq_true, B_is_statement, startE, oSl_tup, cut, atI_0, oEq_str, h1, h2, h3, h5, i3, h6, d7]
          · simp [-Bool.or_eq_true, B_is_statement, startE, oSl_tup, cut, atI_0, atI_1, oEq_str, h1, h2, h3, h5, i3, h6, d7]
            refine (wF_is_name f m (hx f (by simp)) hL).mono ?_
            rintro _ m1 ⟨rfl, rfl⟩
            by_cases hf : nameD f = true
            · simp [hf]
              exact wF_is_tree hL 70 j b m1 (hx b (by simp)) (by omega)
            · simp [hf]
          · have h : ¬ ((t.length : Int) + 1 + 1 + 1 = 2) := by omega
            simp at hl2
            simp [-Bool.or_eq_true, B_is_statement, startE, oSl_tup, cut, atI_0, oEq_str, h1, h2, h3, h5, i3, h6, d7, h, hl2]
            try omega
        · simp only [statementD, if_neg h1, if_neg h2, if_neg h3, if_neg h5, if_neg h6]
          simp [-Bool.or_eq_true, B_is_statement, startE, oSl_tup, cut, atI_0, oEq_str, h1, h2, h3, h5, i3, h6, h7, hl2]
      | _ => simp [B_is_statement, startE, statementD, atI_0, hl2]
  | _ => simp [B_is_statement, startE, statementD]
end Z

set_option maxRecDepth 100000
set_option maxHeartbeats 2000000
set_option autoImplicit false
namespace Z
open PySem PySem.Spec PyProof.Rows L2
def placesD (many : Option Int) : D → Bool
  | .tup l => (match many with | some k => decide ((l.length : Int) = k) | none => true) && l.all nnD
  | _ => false
def manyD : Option Int → D
  | some k => .int k
  | none => .non
theorem wF_is_places (d : D) (many : Option Int) (m : Mem) (hd : ∀ l, d = .tup l → l.length ≤ 100000) : wpE (F_is_places [d, manyD many] m) fun r m1 => r = .bl (placesD many d) ∧ m1 = m := by
  refine wp_fn ?_
  cases d with
  | tup l =>
    have hl : l.length ≤ SL := slLe (by have := hd l rfl; omega)
    have body : wpE (lcF (.n 2) tYesF (pAndV (pApp F_is_int 1 (pCons (pVar 2) pNil)) (pBin oGe (pVar 2) (pC (.int 0)))) [some (.tup l), some (manyD many), none] l m) fun ys m1 => ys = (l.filter fun _ => true).map (fun d => .bl (nnD d)) ∧ m1 = m := by
      refine wp_lc (fun m1 => m1 = m) (fun _ => true) (fun d => .bl (nnD d)) l m ?_ rfl
      rintro d _ m1 rfl
      refine ⟨_, rfl, ?_⟩
      simp
      refine (wF_is_intD d m1).mono ?_
      rintro _ m2 ⟨rfl, rfl⟩
      cases d <;> simp [isIntD, nnD]
    cases many with
    | none =>
      simp only [manyD] at body
      simp [B_is_places, startE, pLc, pLcG_app, hl, manyD, oIsNot_non]
      refine body.mono ?_
      rintro ys m1 ⟨rfl, rfl⟩
      have e := all_lc nnD l m1
      simp [e, placesD]
    | some k =>
      simp only [manyD] at body
      simp [B_is_places, startE, pLc, pLcG_app, hl, manyD, oIsNot_int]
      by_cases hk : (l.length : Int) = k
      · simp [hk]
        refine body.mono ?_
        rintro ys m1 ⟨rfl, rfl⟩
        have e := all_lc nnD l m1
        simp [e, placesD, hk]
      · simp [hk, placesD]
  | _ => simp [B_is_places, startE, placesD]
def polyNz (d : D) : Bool := isPolyD d && (match d with | .tup l => !l.isEmpty | _ => false)
def splitD : D → Bool
  | .tup [.int _, .tup l] => l.all polyNz
  | _ => false
theorem wF_is_split (d : D) (m : Mem) {k : Nat} {L : Nat} (hd : Ok At L k d) (hL : L ≤ 100000) : wpE (F_is_split [d] m) fun r m1 => r = .bl (splitD d) ∧ m1 = m := by
  refine wp_fn ?_
  cases d with
  | tup l =>
    rcases l with _ | ⟨a, _ | ⟨b, _ | ⟨c, t⟩⟩⟩
    · simp [B_is_split, startE, splitD]
    · simp [B_is_split, startE, splitD]
    · simp [B_is_split, startE, atI_0, atI_1]
      refine (wF_is_intD a m).mono ?_
      rintro _ m1 ⟨rfl, rfl⟩
      cases a with
      | int p =>
        cases b with
        | tup l =>
          obtain ⟨_, j, rfl, hx⟩ := hd.tup
          obtain ⟨hl0, j2, rfl, hx2⟩ := (hx (.tup l) (by simp)).tup
          have hl : l.length ≤ SL := slLe (by omega)
          simp [isIntD, pLc, pLcG_app, hl, atI_1]
          refine (wp_lc (fun m2 => m2 = m1) (fun _ => true) (fun d => .bl (polyNz d)) l m1 ?_ rfl).mono ?_
          · rintro d hdl m2 rfl
            refine ⟨_, rfl, ?_⟩
            simp
            refine (wF_is_polynomial d m2 (fun l' e => by subst e; have := (hx2 _ hdl).tup.1; omega)).mono ?_
            rintro _ m3 ⟨rfl, rfl⟩
            by_cases hp : isPolyD d = true
            · cases d with
              | tup l' => cases l' <;> simp [hp, polyNz]
              | _ => simp [isPolyD] at hp
            · simp [hp, polyNz]
          · rintro ys m2 ⟨rfl, rfl⟩
            have e := all_lc polyNz l m2
            simp [e, splitD]
        | _ => simp [isIntD, splitD]
      | _ => simp [isIntD, splitD]
    · have h : ¬ ((t.length : Int) + 1 + 1 + 1 = 2) := by omega
      simp [B_is_split, startE, splitD, h]
  | _ => simp [B_is_split, startE, splitD]
theorem oEq_mir {L k : Nat} {w : Str} {r : List D} (hd : Ok At L k (.tup (.str w :: r))) (hk : k ≤ 60) (m : Mem) : oEq (.tup (.str w :: r)) (.tup [.str "mirror"]) m = some (.bl (decide (w = "mirror") && r.isEmpty)) := by
  obtain ⟨_, j, rfl, hx⟩ := hd.tup
  have hw : PyData.strOk w = true := Ok.str.1 (hx (.str w) (by simp))
  obtain ⟨ps, h1, h2, h3⟩ := okL_py (fun x h => hx x (List.mem_cons_of_mem _ h) : ∀ x ∈ r, Ok At L j x)
  have hm : PyData.strOk "mirror" = true := strOk_of _
  have he : r.isEmpty = ps.isEmpty := by
    cases r with
    | nil => cases h1; rfl
    | cons a r =>
      simp only [toPyL] at h1
      split at h1
      · cases h1; rfl
      · cases h1
  have hd2 : max 0 (PyData.depthAll ps) + 1 ≤ 64 := by omega
  rw [he]
  unfold oEq oEqB oEqD
  simp only [deref, toPy, toPyL, h1]
  have s1 : SeqAt.shaped (.tuple (.str w :: ps)) = true := by
    simp [SeqAt.shaped, PyData.canLay0, PyData.canLayAll0, hw, h2, PyData.depth, PyData.depthAll]
    omega
  have s2 : SeqAt.shaped (.tuple [.str "mirror"]) = true := by
    simp [SeqAt.shaped, PyData.canLay0, PyData.canLayAll0, hm, PyData.depth, PyData.depthAll]
  rw [s1, s2]
  cases ps <;> simp [PyData.eqv, PyData.eqvAll, toBl, beq_dec]
def frNz : D → Bool
  | .tup (.int p :: _) => decide (p ≠ 0)
  | _ => false
def moveD : D → Bool
  | .tup (.str w :: r) => if w = "mirror" then r.isEmpty else if w = "shift" then (match r with | [.int _] => true | _ => false) else decide (w = "scale") && (match r with | [x] => frD x && frNz x | _ => false)
  | _ => false
theorem wF_is_move (d : D) (m : Mem) {k : Nat} {L : Nat} (hd : Ok At L k d) (hk : k ≤ 60) : wpE (F_is_move [d] m) fun r m1 => r = .bl (moveD d) ∧ m1 = m := by
  refine wp_fn ?_
  cases d with
  | tup l =>
    cases l with
    | nil => simp [B_is_move, startE, moveD]
    | cons a r =>
      have hl0 : ¬ ((r.length : Int) + 1 = 0) := by omega
      cases a with
      | str w =>
        have em := fun m => oEq_mir hd hk m
        by_cases h1 : w = "mirror"
        · have d1 := eq_true h1
          cases r with
          | nil => simp [B_is_move, startE, moveD, atI_0, em, d1]
          | cons b r =>
            have n1 : ¬ w = "shift" := by rw [h1]; decide +kernel
            have n2 : ¬ w = "scale" := by rw [h1]; decide +kernel
            have hl1 : ¬ ((r.length : Int) + 1 + 1 = 0) := by omega
            simp [B_is_move, startE, moveD, atI_0, em, d1, oEq_str, n1, n2, hl1]
        · by_cases h2 : w = "shift"
          · have d2 := eq_true h2
            rcases r with _ | ⟨b, _ | ⟨c, t⟩⟩
            · simp [B_is_move, startE, moveD, atI_0, em, h1, oEq_str, d2]
            · simp [B_is_move, startE, moveD, atI_0, atI_1, em, h1, oEq_str, d2]
              refine (wF_is_intD b m).mono ?_
              rintro _ m1 ⟨rfl, rfl⟩
              cases b <;> simp [isIntD]
            · have h : ¬ ((t.length : Int) + 1 + 1 + 1 = 2) := by omega
              simp at hl0
              simp [B_is_move, startE, moveD, atI_0, em, h1, oEq_str, d2, h]
              try omega
          · by_cases h3 : w = "scale"
            · have d3 := eq_true h3
              rcases r with _ | ⟨b, _ | ⟨c, t⟩⟩
              · simp [B_is_move, startE, moveD, atI_0, em, h1, oEq_str, h2, d3]
              · simp [B_is_move, startE, moveD, atI_0, atI_1, em, h1, oEq_str, h2, d3]
                refine (wF_is_fraction b m).mono ?_
                rintro _ m1 ⟨rfl, rfl⟩
                by_cases hf : frD b = true
                · have : ∃ p q, b = .tup [.int p, .int q] := by
                    unfold frD at hf
                    split at hf
                    · exact ⟨_, _, rfl⟩
                    · cases hf
                  obtain ⟨p, q, rfl⟩ := this
                  simp [hf, frNz, atI_0]
                · simp [hf]
              · have h : ¬ ((t.length : Int) + 1 + 1 + 1 = 2) := by omega
                simp [B_is_move, startE, moveD, atI_0, em, h1, oEq_str, h2, d3, h]
                try omega
            · simp [B_is_move, startE, moveD, atI_0, em, h1, oEq_str, h2, h3, hl0]
      | _ => simp [B_is_move, startE, moveD, atI_0, hl0]
  | _ => simp [B_is_move, startE, moveD]
def madeD : List D → Bool
  | [a, b, c] => nnD a && (placesD none b && (isNonD c || nnD c))
  | _ => false
theorem cut2_3 (a b c : D) : cutD [a, b, c] (some 2) none = [c] := rfl
theorem pl1 (a : D) : placesD (some 1) (.tup [a]) = nnD a := by simp [placesD]
theorem wF_is_made (r : List D) (m : Mem) {k : Nat} {L : Nat} (hd : ∀ x ∈ r, Ok At L k x) (hL : L ≤ 100000) : wpE (F_is_made [.tup r] m) fun b m1 => b = .bl (madeD r) ∧ m1 = m := by
  refine wp_fn ?_
  rcases r with _ | ⟨a, _ | ⟨b, _ | ⟨c, _ | ⟨e, t⟩⟩⟩⟩
  · simp [B_is_made, startE, madeD]
  · simp [B_is_made, startE, madeD]
  · simp [B_is_made, startE, madeD]
  · have p1 := wF_is_places (.tup [a]) (some 1) m (fun l e => by cases e; simp)
    have p2 := fun m => wF_is_places b none m (fun l e => by subst e; have := (hd (.tup l) (by simp)).tup.1; omega)
    have p3 := fun m => wF_is_places (.tup [c]) (some 1) m (fun l e => by cases e; simp)
    simp only [manyD, pl1] at p1 p2 p3
    simp [B_is_made, startE, oSl_tup, cut01, cut2_3, atI_1]
    refine p1.mono ?_
    rintro _ m1 ⟨rfl, rfl⟩
    by_cases ha : nnD a = true
    · simp [ha]
      refine (p2 m1).mono ?_
      rintro _ m2 ⟨rfl, rfl⟩
      by_cases hb : placesD none b = true
      · have e2 : atI [a, b, c] 2 = some c := rfl
        simp [hb, e2, oIs_non, madeD, ha]
        by_cases hc : isNonD c = true
        · simp [hc]
        · simp [hc]
          exact p3 m2
      · simp [hb, madeD]
    · simp [ha, madeD]
  · have h : ¬ ((t.length : Int) + 1 + 1 + 1 + 1 = 3) := by omega
    simp [B_is_made, startE, madeD, h]
def reasonD : D → Bool
  | .tup (.str w :: r) => match lookD C_COUNTS w with
    | some c => placesD (some c) (.tup r)
    | none => if w = "mod" then (match r with | [a] => isIntD a | _ => false)
      else if w = "shift" then (match r with | [a, b] => isIntD a && isIntD b | _ => false)
      else if w = "degrees" then (match r with | [.tup l] => l.all splitD | _ => false)
      else if w = "lots" then (match r with | [a, .int i, c] => decide (1 ≤ i) && splitD (.tup [a, c]) | _ => false)
      else if w = "moved" then (match r with | [a, b] => nnD a && moveD b | _ => false)
      else if w = "product" then (match r with | [a] => placesD none a | _ => false)
      else if w = "signs" then (match r with | [a, b] => decide (kindN a = 4) && decide (kindN b = 4) | _ => false)
      else decide (w = "made") && madeD r
  | _ => false
theorem wF_is_reason (d : D) (m : Mem) {k : Nat} {L : Nat} (hd : Ok At L k d) (hk : k ≤ 60) (hL : L ≤ 1000) : wpE (F_is_reason [d] m) fun b m1 => b = .bl (reasonD d) ∧ m1 = m := by
  refine wp_fn ?_
  cases d with
  | tup l =>
    cases l with
    | nil => simp [B_is_reason, startE, reasonD]
    | cons a r =>
      have hl0 : ¬ ((r.length : Int) + 1 = 0) := by omega
      cases a with
      | str w =>
        have cut := cutD_1 (.str w) r
        obtain ⟨hrl, j, rfl, hx'⟩ := hd.tup
        have hx : ∀ x ∈ r, Ok At L j x := fun x h => hx' x (List.mem_cons_of_mem _ h)
        cases hw : lookD C_COUNTS w with
        | some c =>
          simp [B_is_reason, startE, oSl_tup, cut, hw, reasonD, hl0, atI_0]
          exact wF_is_places (.tup r) (some c) m (fun l e => by cases e; simp at hrl; omega)
        | none =>
          by_cases h1 : w = "mod"
          · have d1 := eq_true h1
            rcases r with _ | ⟨a, _ | ⟨b, t⟩⟩
            · simp [B_is_reason, startE, oSl_tup, cut, hw, reasonD, atI_0, oEq_str, d1]
            · simp [B_is_reason, startE, oSl_tup, cut, hw, reasonD, atI_0, oEq_str, d1]
              exact wF_is_intD a m
            · have h : ¬ ((t.length : Int) + 1 + 1 = 1) := by omega
              have h0 : ¬ ((t.length : Int) + 1 + 1 + 1 = 0) := by omega
              simp [B_is_reason, startE, oSl_tup, cut, hw, reasonD, atI_0, oEq_str, d1, h, h0]
              try omega
          by_cases h2 : w = "shift"
          · have d2 := eq_true h2
            rcases r with _ | ⟨a, _ | ⟨b, _ | ⟨c, t⟩⟩⟩
            · simp [B_is_reason, startE, oSl_tup, cut, hw, reasonD, atI_0, oEq_str, h1, d2]
            · simp [B_is_reason, startE, oSl_tup, cut, hw, reasonD, atI_0, oEq_str, h1, d2]
            · simp [B_is_reason, startE, oSl_tup, cut, hw, reasonD, atI_0, atI_1, oEq_str, h1, d2]
              refine (wF_is_intD a m).mono ?_
              rintro _ m1 ⟨rfl, rfl⟩
              by_cases ha : isIntD a = true
              · simp [ha]
                exact wF_is_intD b m1
              · simp [ha]
            · have h : ¬ ((t.length : Int) + 1 + 1 + 1 = 2) := by omega
              have h0 : ¬ ((t.length : Int) + 1 + 1 + 1 + 1 = 0) := by omega
              simp [B_is_reason, startE, oSl_tup, cut, hw, reasonD, atI_0, oEq_str, h1, d2, h, h0]
              try omega
          by_cases h3 : w = "degrees"
          · have d3 := eq_true h3
            rcases r with _ | ⟨a, _ | ⟨b, t⟩⟩
            · simp [B_is_reason, startE, oSl_tup, cut, hw, reasonD, atI_0, oEq_str, h1, h2, d3]
            · cases a with
              | tup l =>
                obtain ⟨hl0, j2, rfl, hx2⟩ := (hx (.tup l) (by simp)).tup
                have hl : l.length ≤ SL := slLe (by omega)
                simp [B_is_reason, startE, oSl_tup, cut, hw, reasonD, atI_0, oEq_str, h1, h2, d3, pLc, pLcG_app, hl]
                refine (wp_lc (fun m2 => m2 = m) (fun _ => true) (fun d => .bl (splitD d)) l m ?_ rfl).mono ?_
                · rintro d hdl m2 rfl
                  refine ⟨_, rfl, ?_⟩
                  simp
                  exact wF_is_split d m2 (hx2 d hdl) (by omega)
                · rintro ys m2 ⟨rfl, rfl⟩
                  have e := all_lc splitD l m2
                  simp [e]
              | _ => simp [B_is_reason, startE, oSl_tup, cut, hw, reasonD, atI_0, oEq_str, h1, h2, d3]
            · have h : ¬ ((t.length : Int) + 1 + 1 = 1) := by omega
              have h0 : ¬ ((t.length : Int) + 1 + 1 + 1 = 0) := by omega
              simp [B_is_reason, startE, oSl_tup, cut, hw, reasonD, atI_0, oEq_str, h1, h2, d3, h, h0]
              try omega
          by_cases h4 : w = "lots"
          · have d4 := eq_true h4
            rcases r with _ | ⟨a, _ | ⟨b, _ | ⟨c, _ | ⟨e, t⟩⟩⟩⟩
            · simp [B_is_reason, startE, oSl_tup, cut, hw, reasonD, atI_0, oEq_str, h1, h2, h3, d4]
            · simp [B_is_reason, startE, oSl_tup, cut, hw, reasonD, atI_0, oEq_str, h1, h2, h3, d4]
            · simp [B_is_reason, startE, oSl_tup, cut, hw, reasonD, atI_0, oEq_str, h1, h2, h3, d4]
            · have e2 : atI [a, b, c] 2 = some c := rfl
              have e3 := fun m => wF_is_split (.tup [a, c]) m (k := j + 1) (L := L + 2) (Ok.mk (by simp) fun x h => by
                have h' : x = a ∨ x = c := by simpa using h
                rcases h' with rfl | rfl
                · exact (hx _ (by simp)).mono (fun _ h => h) (by omega) (Nat.le_refl _)
                · exact (hx _ (by simp)).mono (fun _ h => h) (by omega) (Nat.le_refl _)) (by omega)
              simp [B_is_reason, startE, oSl_tup, cut, hw, reasonD, atI_0, atI_1, e2, oEq_str, h1, h2, h3, d4]
              refine (wF_is_intD b m).mono ?_
              rintro _ m1 ⟨rfl, rfl⟩
              cases b with
              | int i =>
                by_cases hi : 1 ≤ i
                · simp [isIntD, hi]
                  exact e3 m1
                · simp [isIntD, hi]
              | _ => simp [isIntD]
            · have h : ¬ ((t.length : Int) + 1 + 1 + 1 + 1 = 3) := by omega
              have h0 : ¬ ((t.length : Int) + 1 + 1 + 1 + 1 + 1 = 0) := by omega
              simp [B_is_reason, startE, oSl_tup, cut, hw, reasonD, atI_0, oEq_str, h1, h2, h3, d4, h, h0]
              try omega
          by_cases h5 : w = "moved"
          · have d5 := eq_true h5
            rcases r with _ | ⟨a, _ | ⟨b, _ | ⟨c, t⟩⟩⟩
            · simp [B_is_reason, startE, oSl_tup, cut, hw, reasonD, atI_0, oEq_str, h1, h2, h3, h4, d5]
            · simp [B_is_reason, startE, oSl_tup, cut, hw, reasonD, atI_0, oEq_str, h1, h2, h3, h4, d5]
            · simp [B_is_reason, startE, oSl_tup, cut, hw, reasonD, atI_0, atI_1, oEq_str, h1, h2, h3, h4, d5, cut01]
              have p1 := wF_is_places (.tup [a]) (some 1) m (fun l e => by cases e; simp)
              simp only [manyD, pl1] at p1
              refine p1.mono ?_
              rintro _ m1 ⟨rfl, rfl⟩
              by_cases ha : nnD a = true
              · simp [ha]
                exact wF_is_move b m1 (hx b (by simp)) (by omega)
              · simp [ha]
            · have h : ¬ ((t.length : Int) + 1 + 1 + 1 = 2) := by omega
              have h0 : ¬ ((t.length : Int) + 1 + 1 + 1 + 1 = 0) := by omega
              simp [B_is_reason, startE, oSl_tup, cut, hw, reasonD, atI_0, oEq_str, h1, h2, h3, h4, d5, h, h0]
              try omega
          by_cases h6 : w = "product"
          · have d6 := eq_true h6
            rcases r with _ | ⟨a, _ | ⟨b, t⟩⟩
            · simp [B_is_reason, startE, oSl_tup, cut, hw, reasonD, atI_0, oEq_str, h1, h2, h3, h4, h5, d6]
            · simp [B_is_reason, startE, oSl_tup, cut, hw, reasonD, atI_0, oEq_str, h1, h2, h3, h4, h5, d6]
              exact wF_is_places a none m (fun l e => by subst e; have := (hx (.tup l) (by simp)).tup.1; omega)
            · have h : ¬ ((t.length : Int) + 1 + 1 = 1) := by omega
              have h0 : ¬ ((t.length : Int) + 1 + 1 + 1 = 0) := by omega
              simp [B_is_reason, startE, oSl_tup, cut, hw, reasonD, atI_0, oEq_str, h1, h2, h3, h4, h5, d6, h, h0]
              try omega
          by_cases h7 : w = "signs"
          · have d7 := eq_true h7
            rcases r with _ | ⟨a, _ | ⟨b, _ | ⟨c, t⟩⟩⟩
            · simp [B_is_reason, startE, oSl_tup, cut, hw, reasonD, atI_0, oEq_str, h1, h2, h3, h4, h5, h6, d7]
            · simp [B_is_reason, startE, oSl_tup, cut, hw, reasonD, atI_0, oEq_str, h1, h2, h3, h4, h5, h6, d7]
            · have kt : kindN (D.tup [D.str w, a, b]) = 4 := rfl
              by_cases ka : kindN a = 4
              · simp [B_is_reason, startE, oSl_tup, cut, hw, reasonD, atI_0, atI_1, oEq_str, h1, h2, h3, h4, h5, h6, d7, isi_tup, ka, kt]
              · simp [B_is_reason, startE, oSl_tup, cut, hw, reasonD, atI_0, atI_1, oEq_str, h1, h2, h3, h4, h5, h6, d7, isi_tup, ka, kt]
            · have h : ¬ ((t.length : Int) + 1 + 1 + 1 = 2) := by omega
              have h0 : ¬ ((t.length : Int) + 1 + 1 + 1 + 1 = 0) := by omega
              simp [B_is_reason, startE, oSl_tup, cut, hw, reasonD, atI_0, oEq_str, h1, h2, h3, h4, h5, h6, d7, h, h0]
              try omega
          by_cases h8 : w = "made"
          · have d8 := eq_true h8
            simp [B_is_reason, startE, oSl_tup, cut, hw, reasonD, atI_0, oEq_str, h1, h2, h3, h4, h5, h6, h7, d8, hl0]
            exact wF_is_made r m hx (by omega)
          · simp [B_is_reason, startE, oSl_tup, cut, hw, reasonD, atI_0, oEq_str, h1, h2, h3, h4, h5, h6, h7, h8, hl0]
      | _ => simp [B_is_reason, startE, reasonD, atI_0, hl0]
  | _ => simp [B_is_reason, startE, reasonD]

end Z

set_option maxRecDepth 100000
set_option maxHeartbeats 2000000
set_option autoImplicit false
namespace Z
open PySem PySem.Spec PyProof.Rows L2
open NumText
@[simp] theorem oLen_sO (l : List Nat) (m : Mem) : oLen [.str (sO l)] m = if l.length ≤ SL then some (.int l.length) else none := by
  show (if (sO l).length ≤ SL then some (D.int (sO l).length) else none) = _
  rw [sO_len]
@[simp] theorem itemsOf_str (l : List Nat) (m : Mem) : itemsOf (.str (sO l)) m = some (.ok (l.map fun c => D.str (sO [c])) m) := rfl
def digB (c : Nat) : Bool := decide (48 ≤ c) && decide (c ≤ 57)
theorem in_digs (c : Nat) (s : Str) (hs : s = sO [48, 49, 50, 51, 52, 53, 54, 55, 56, 57]) (m : Mem) : oIn (.str (sO [c])) (.str s) m = some (.bl (digB c)) := by
  subst hs
  unfold oIn oInB
  have h1 : (sO [c]).cps.size = 1 := rfl
  simp only [h1, if_true, tl_sO]
  have h2 : (sO [c]).cps.getD 0 0 = c := rfl
  rw [h2]
  show some (D.bl _) = _
  congr 2
  rw [Bool.eq_iff_iff]
  simp [digB]
  omega
theorem digs_eq : (("0123456789" : Str)) = sO [48, 49, 50, 51, 52, 53, 54, 55, 56, 57] := rfl
theorem notin_digs (c : Nat) (m : Mem) : oNotIn (.str (sO [c])) (.str "0123456789") m = some (.bl (!digB c)) := by
  have := in_digs c "0123456789" digs_eq m
  unfold oIn at this
  unfold oNotIn
  cases h : oInB (.str (sO [c])) (.str "0123456789") m with
  | none => rw [h] at this; cases this
  | some b => rw [h] at this; cases this; rfl
theorem allDig_iff (b : List Nat) : b.all digB = true ↔ AllDigits b := by
  rw [List.all_eq_true]
  unfold AllDigits
  constructor
  · intro h c hc; have := h c hc; simpa [digB] using this
  · intro h c hc; have := h c hc; simpa [digB] using this
theorem sO_nil (b : List Nat) : (sO b = "") ↔ b = [] := by rw [show ("" : Str) = sO [] from rfl, sO_inj]
theorem sO_min (b : List Nat) : (sO b = "-") ↔ b = [45] := by rw [show ("-" : Str) = sO [45] from rfl, sO_inj]
theorem sO_m0 (b : List Nat) : (sO b = "-0") ↔ b = [45, 48] := by rw [show ("-0" : Str) = sO [45, 48] from rfl, sO_inj]
theorem sO_0 (b : List Nat) : (sO b = "0") ↔ b = [48] := by rw [show ("0" : Str) = sO [48] from rfl, sO_inj]
theorem lc_map {T : Tgt} {p : PEF} {e : Ev} {m : Mem} (f : D → D) : ∀ (ds : List D), (∀ d ∈ ds, ∃ e1, tgtE T d e = some e1 ∧ p e1 m = some (.ok (f d) m)) → lcF T tYesF p e ds m = some (.ok (ds.map f) m)
  | [], _ => rfl
  | d :: ds, h => by
    obtain ⟨e1, h1, h2⟩ := h d (List.mem_cons_self ..)
    rw [lcF_cons, h1]
    simp only [okE, tYesF, okB, okD, h2, if_true]
    rw [lc_map f ds fun d hd => h d (List.mem_cons_of_mem _ hd)]
    rfl
def c1D : D → Nat
  | .str z => z.cps.getD 0 0
  | _ => 0
theorem rw_all (l b : List Nat) (m : Mem) (hb : b.length ≤ 100000) : pCall oAll (pCons (pLc [2] (iSeq (pVar 1)) (.n 2) tYesF (pBin oIn (pVar 2) (pC C_DIGITS))) pNil) [some (.str (sO l)), some (.str (sO b)), none] m = some (.ok (.bl (b.all digB)) m) := by
  have hl : b.length ≤ SL := slLe (by omega)
  have key := lc_map (T := .n 2) (p := pBin oIn (pVar 2) (pC C_DIGITS)) (e := [some (.str (sO l)), some (.str (sO b)), none]) (m := m) (fun d => .bl (digB (c1D d))) (b.map fun c => D.str (sO [c])) (by
    intro d hd
    obtain ⟨c, hc, rfl⟩ := List.mem_map.1 hd
    refine ⟨_, rfl, ?_⟩
    have h := in_digs c "0123456789" digs_eq m
    simp [C_DIGITS, h]
    rfl)
  simp [pLc, pLcG_app, hl, key, finL, finF]
  have := all_lc (fun d => digB (c1D d)) (b.map fun c => D.str (sO [c])) m
  rw [List.filter_eq_self.2 (fun _ _ => rfl)] at this
  rw [List.map_map, List.all_map] at this
  rw [this]
  rfl
def resW (o : Option Int) (m : Mem) : Out D := match o with
  | some n => .ok (.int n) m
  | none => .exc "BadText" m
theorem oSl_sO (l : List Nat) (lo hi : Option Int) (m : Mem) (h : l.length ≤ 100000) : oSl (.str (sO l)) lo hi m = some (.str (cutS (sO l) lo hi)) := by
  show (if (sO l).length ≤ SL then _ else _) = _
  rw [if_pos (slLe (by rw [sO_len]; omega))]
theorem cut_t1 (l : List Nat) : cutS (sO l) none (some 1) = sO (l.take 1) := cut_take l 1
theorem cut_d1 (l : List Nat) : cutS (sO l) (some 1) none = sO (l.drop 1) := cut_drop l 1
theorem oInt_dig {b : List Nat} (h : AllDigits b) (h1 : b ≠ []) (h2 : b.length ≤ 600) (m : Mem) : oIntS [.str (sO b)] m = some (.int (digitsVal b : Nat)) := by
  have := intText_digits (x := sO b) h h1 (by rw [sO_len]; omega)
  unfold oIntS
  simp only
  rw [if_pos (by rw [sO_len]; omega), this]
  rfl
theorem oInt_neg {b : List Nat} (h : AllDigits b) (h1 : b ≠ []) (h2 : b.length ≤ 600) (m : Mem) : oIntS [.str (sO (45 :: b))] m = some (.int (-(digitsVal b : Nat))) := by
  have := intText_neg (x := sO (45 :: b)) (cs := b) rfl h h1 (by rw [sO_len, List.length_cons]; omega)
  unfold oIntS
  simp only
  rw [if_pos (by rw [sO_len, List.length_cons]; omega), this]
theorem lt_log {n k : Nat} (h : n < 2 ^ k) (hk : k ≤ 1900) : n.log2 < 1920 := by
  by_cases h0 : n = 0
  · subst h0; decide
  · have := (Nat.log2_lt h0).2 h
    omega
theorem oStr_int {i : Int} (m : Mem) {k : Nat} (h : i.natAbs < 2 ^ k) (hk : k ≤ 1900) : oStr [.int i] m = some (.str (sO (intL i))) := by
  unfold oStr
  simp only
  rw [if_pos (lt_log h hk), str_int]
theorem pow60 {n : Nat} (h : n < 10 ^ 60) : n < 2 ^ 300 := Nat.lt_of_lt_of_le h (by
  generalize hx : (300 : Nat) = x
  have : (10 : Nat) ^ 60 ≤ 2 ^ 200 := by decide
  exact Nat.le_trans this (Nat.pow_le_pow_right (by decide) (by omega)))
def RW2 : PSF := (sSeq (sIf (pOrT (pTst (pBin oEq (pVar 1) (pC (.str "")))) (pOrT (pTst (pBin oGt (pCall oLen (pCons (pVar 1) pNil)) (pC (.int 60)))) (pNotT (pTru (pCall oAll (pCons (pLc [2] (iSeq (pVar 1)) (.n 2) tYesF (pBin oIn (pVar 2) (pC C_DIGITS))) pNil)))))) (sRaise "BadText" (pVar 0)) sNop)
  (sSeq (sIf (pOrT (pTst (pBin oNe (pCall oStr (pCons (pCall oIntS (pCons (pVar 1) pNil)) pNil)) (pVar 1))) (pTst (pBin oEq (pVar 0) (pC (.str "-0"))))) (sRaise "BadText" (pVar 0)) sNop)
  (sRet (pCall oIntS (pCons (pVar 0) pNil)))))
theorem natAbs_pow {n : Nat} (h : n < 10 ^ 60) : ((n : Int)).natAbs < 2 ^ 300 := by rw [Int.natAbs_natCast]; exact pow60 h
theorem rw2 (l b : List Nat) (m : Mem) (hb : b.length ≤ 100000) (v : Int) (hv : wOk b → oIntS [.str (sO l)] m = some (.int v)) :
    (wOk b ∧ l ≠ [45, 48] → RW2 [some (.str (sO l)), some (.str (sO b)), none] m = some (.rt (.int v) m)) ∧
    (¬ (wOk b ∧ l ≠ [45, 48]) → ∃ e, RW2 [some (.str (sO l)), some (.str (sO b)), none] m = some (.exc "BadText" e m)) := by
  have hl : b.length ≤ SL := slLe (by omega)
  have ha := rw_all l b m hb
  simp at ha
  let e0 : Ev := [some (.str (sO l)), some (.str (sO b)), none]
  unfold RW2
  by_cases h0 : b = []
  · refine ⟨fun h => absurd h0 h.1.1.1, fun _ => ⟨e0, ?_⟩⟩
    simp [h0, sO_nil, e0]
  by_cases h1 : 60 < b.length
  · have h1 : (60 : Int) < b.length := by omega
    refine ⟨fun h => by have := h.1.2; omega, fun _ => ⟨e0, ?_⟩⟩
    simp [h0, sO_nil, hl, h1, e0]
  have h1 : ¬ (60 : Int) < b.length := by omega
  by_cases h2 : b.all digB = true
  · have hd := (allDig_iff b).1 h2
    have hi := oInt_dig hd h0 (by omega) m
    have hs := oStr_int m (natAbs_pow (Nat.lt_of_lt_of_le (val_lt hd) (Nat.pow_le_pow_right (by decide) (by omega)))) (by decide)
    have hc : intL ((digitsVal b : Nat) : Int) = b ↔ wOk b := by
      unfold intL
      rw [if_neg (by omega), Int.natAbs_natCast, num_val_iff h0 hd]
      exact ⟨fun h => ⟨⟨h0, hd, h⟩, by omega⟩, fun h => h.1.2.2⟩
    by_cases hw : wOk b
    · have hc' := hc.2 hw
      have hv' := hv hw
      by_cases hm : l = [45, 48]
      · refine ⟨fun h => absurd hm h.2, fun _ => ⟨e0, ?_⟩⟩
        simp [h0, sO_nil, hl, h1, ha, h2, hi, hs, hc', sO_m0, eq_true hm, oNe_str, e0]
      · refine ⟨fun h => ?_, fun h => absurd ⟨hw, hm⟩ h⟩
        simp [h0, sO_nil, hl, h1, ha, h2, hi, hs, hc', sO_m0, hm, hv', oNe_str]
    · have hc' : intL ((digitsVal b : Nat) : Int) ≠ b := fun e => hw (hc.1 e)
      refine ⟨fun h => absurd h.1 hw, fun _ => ⟨e0, ?_⟩⟩
      simp [h0, sO_nil, hl, h1, ha, h2, hi, hs, hc', sO_inj, oNe_str, e0]
  · refine ⟨fun h => absurd ((allDig_iff b).2 h.1.1.2.1) h2, fun _ => ⟨e0, ?_⟩⟩
    have h3 : b.all digB = false := by simpa using h2
    simp [h0, sO_nil, hl, h1, ha, h3, e0]
theorem read_whole_eq (l : List Nat) (m : Mem) (hl : l.length ≤ 90000) : F_read_whole [.str (sO l)] m = some (resW (wholeL l) m) := by
  have hle : l.length ≤ SL := slLe (by omega)
  have hs1 := oSl_sO l none (some 1) m (by omega)
  have hs2 := oSl_sO l (some 1) none m (by omega)
  rw [cut_t1] at hs1
  rw [cut_d1] at hs2
  show pFn 3 (sSeq (sSet 1 (pIf (pTst (pBin oEq (pSl (pVar 0) pNoPart (pPart (pC (.int 1)))) (pC (.str "-")))) (pSl (pVar 0) (pPart (pC (.int 1))) pNoPart) (pVar 0))) RW2) [.str (sO l)] m = _
  unfold pFn
  by_cases h : l.take 1 = [45]
  · have hst : (sSeq (sSet 1 (pIf (pTst (pBin oEq (pSl (pVar 0) pNoPart (pPart (pC (.int 1)))) (pC (.str "-")))) (pSl (pVar 0) (pPart (pC (.int 1))) pNoPart) (pVar 0))) RW2) (startE 3 [.str (sO l)]) m = RW2 [some (.str (sO l)), some (.str (sO (l.drop 1))), none] m := by
      simp [startE, pNoPart, pPart, hs1, sO_min, eq_true h, hs2]
    rw [hst]
    cases l with
    | nil => cases h
    | cons c b =>
      have hc : c = 45 := by simpa using h
      subst hc
      have key := rw2 (45 :: b) b m (by simp at hl; omega) (-((digitsVal b : Nat) : Int)) (fun hw => oInt_neg hw.1.2.1 hw.1.1 (by have := hw.2; omega) m)
      by_cases hw : wOk b ∧ (45 :: b) ≠ [45, 48]
      · rw [show List.drop 1 (45 :: b) = b from rfl, key.1 hw, whole_neg hw.1 (fun e => hw.2 (by rw [e]))]
        rfl
      · obtain ⟨e, he⟩ := key.2 hw
        have hn : wholeL (45 :: b) = none := by
          unfold wholeL
          rw [if_pos (show (45 :: b).head? = some 45 from rfl), if_neg]
          rintro ⟨h1, h2⟩
          exact hw ⟨h1, fun e => h2 (by simpa using e)⟩
        rw [show List.drop 1 (45 :: b) = b from rfl, he, hn]
        rfl
  · have hst : (sSeq (sSet 1 (pIf (pTst (pBin oEq (pSl (pVar 0) pNoPart (pPart (pC (.int 1)))) (pC (.str "-")))) (pSl (pVar 0) (pPart (pC (.int 1))) pNoPart) (pVar 0))) RW2) (startE 3 [.str (sO l)]) m = RW2 [some (.str (sO l)), some (.str (sO l)), none] m := by
      simp [startE, pNoPart, pPart, hs1, sO_min, h, hs2]
    rw [hst]
    have hh : l.head? ≠ some 45 := fun e => h (by
      cases l with
      | nil => cases e
      | cons a b => simp at e; simp [e])
    have key := rw2 l l m (by omega) ((digitsVal l : Nat) : Int) (fun hw => oInt_dig hw.1.2.1 hw.1.1 (by have := hw.2; omega) m)
    by_cases hw : wOk l
    · rw [key.1 ⟨hw, fun e => hh (by rw [e]; rfl)⟩, whole_pos hw]
      rfl
    · obtain ⟨e, he⟩ := key.2 (fun h => hw h.1)
      have hn : wholeL l = none := by
        unfold wholeL
        rw [if_neg hh, if_neg hw]
      rw [he, hn]
      rfl
open NumText
/-! values and their texts -/
mutual
def textL : D → List Nat
  | .non => [46]
  | .int i => intL i
  | .str s => s.cps.toList
  | .tup l => 40 :: (textLs l ++ [41])
  | _ => []
def textLs : List D → List Nat
  | [] => []
  | d :: l => match l with
    | [] => textL d
    | _ :: _ => textL d ++ 32 :: textLs l
end
theorem textLs_join : ∀ l : List D, textLs l = TL.joinL [32] (l.map textL)
  | [] => by simp [textLs, TL.joinL]
  | [d] => by simp [textLs, TL.joinL]
  | d :: e :: l => by
    have ih := textLs_join (e :: l)
    rw [List.map_cons] at ih
    rw [textLs, List.map_cons, List.map_cons, TL.joinL, ih]
    rfl
/-- a value as it is read: of so deep -/
def Vd : Nat → D → Prop
  | _, .non => True
  | _, .int i => i.natAbs < 10 ^ 60
  | _, .str _ => True
  | 0, .tup _ => False
  | n + 1, .tup l => ∀ d ∈ l, Vd n d
  | _, _ => False
theorem Vd.up : ∀ {n k : Nat} {d : D}, n ≤ k → Vd n d → Vd k d
  | 0, 0, _, _, h => h
  | 0, k + 1, .non, _, h => h
  | 0, k + 1, .int _, _, h => h
  | 0, k + 1, .str _, _, h => h
  | 0, k + 1, .tup _, _, h => h.elim
  | n + 1, 0, _, hn, _ => absurd hn (by omega)
  | n + 1, k + 1, .non, _, h => h
  | n + 1, k + 1, .int _, _, h => h
  | n + 1, k + 1, .str _, _, h => h
  | n + 1, k + 1, .tup l, hn, h => fun d hd => Vd.up (Nat.le_of_succ_le_succ hn) (h d hd)
def wt (l : List D) : Nat := (l.map fun d => (textL d).length + 1).sum
theorem wt_nil : wt [] = 0 := rfl
theorem wt_snoc (l : List D) (d : D) : wt (l ++ [d]) = wt l + ((textL d).length + 1) := by simp [wt]
theorem textLs_len : ∀ l : List D, (textLs l).length ≤ wt l
  | [] => by simp [textLs]
  | [d] => by simp [textLs, wt]
  | d :: e :: l => by
    have ih := textLs_len (e :: l)
    have h : wt (d :: e :: l) = ((textL d).length + 1) + wt (e :: l) := by simp [wt]
    rw [textLs, h]
    simp only [List.length_append, List.length_cons]
    omega
theorem tup_len (l : List D) : (textL (.tup l)).length ≤ wt l + 2 := by
  have := textLs_len l
  simp only [textL, List.length_cons, List.length_append, List.length_nil]
  omega
theorem mem_wt {l : List D} {d : D} (h : d ∈ l) : (textL d).length + 1 ≤ wt l := by
  unfold wt
  induction l with
  | nil => cases h
  | cons e l ih =>
    rw [List.map_cons, List.sum_cons]
    rcases List.mem_cons.1 h with rfl | h
    · omega
    · have := ih h; omega
/-! signs, marks -/
def letB (c : Nat) : Bool := decide (97 ≤ c) && decide (c ≤ 122)
noncomputable def readMark (k : List Nat) : Option D := if k = [46] then some .non else if k.all letB = true then some (.str (sO k)) else match wholeL k with
  | some i => some (.int i)
  | none => none
def ex (c : Nat) : List Nat := if c = 40 then [32, 40, 32] else if c = 41 then [32, 41, 32] else [c]
def expL (t : List Nat) : List Nat := t.flatMap ex
def words : List Nat → List Nat → List (List Nat)
  | [], cur => if cur = [] then [] else [cur]
  | c :: r, cur => if c = 32 then (if cur = [] then words r [] else cur :: words r []) else words r (cur ++ [c])
theorem words_run : ∀ (p r cur : List Nat), 32 ∉ p → words (p ++ r) cur = words r (cur ++ p)
  | [], r, cur, _ => by simp
  | c :: p, r, cur, h => by
    have hc : c ≠ 32 := fun e => h (by rw [e]; simp)
    have ih := words_run p r (cur ++ [c]) (fun hm => h (List.mem_cons_of_mem _ hm))
    rw [List.cons_append, words, if_neg hc, ih, List.append_assoc]
    rfl
theorem words_join : ∀ ps : List (List Nat), (∀ p ∈ ps, 32 ∉ p) → words (TL.joinL [32] ps) [] = ps.filter fun p => decide (p ≠ [])
  | [], _ => rfl
  | [p], h => by
    have := words_run p [] [] (h p (by simp))
    rw [List.append_nil] at this
    show words p [] = _
    rw [this, List.nil_append]
    by_cases hp : p = []
    · subst hp; rfl
    · rw [words, if_neg hp, List.filter_cons_of_pos (by simpa using hp)]; rfl
  | p :: q :: r, h => by
    have ih := words_join (q :: r) fun x hx => h x (List.mem_cons_of_mem _ hx)
    show words (p ++ (32 :: TL.joinL [32] (q :: r))) [] = _
    rw [words_run p _ [] (h p (by simp)), List.nil_append, words, if_pos rfl, ih]
    by_cases hp : p = []
    · rw [if_pos hp, List.filter_cons_of_neg (a := p) (by simpa using hp)]
    · rw [if_neg hp, List.filter_cons_of_pos (a := p) (by simpa using hp)]
noncomputable def step (st : List D × List (List D)) (k : List Nat) : Option (List D × List (List D)) :=
  if k = [40] then (if st.2.length + 2 ≤ 60 then some ([], st.1 :: st.2) else none)
  else if k = [41] then (match st.2 with
    | [] => none
    | u :: b => some (u ++ [.tup st.1], b))
  else match readMark k with
    | some d => some (st.1 ++ [d], st.2)
    | none => none
noncomputable def run : List D × List (List D) → List (List Nat) → Option (List D × List (List D))
  | st, [] => some st
  | st, k :: r => match step st k with
    | some st' => run st' r
    | none => none
noncomputable def marks (t : List Nat) : List (List Nat) := words (expL t) []
noncomputable def parse (t : List Nat) : Option D := match run ([], []) (marks t) with
  | some ([d], []) => if textL d = t then some d else none
  | _ => none
/-! what is read is written back so: by its very test; of bounded size -/
def stW (st : List D × List (List D)) : Nat := wt st.1 + (st.2.map fun r => wt r + 3).sum
def stV (st : List D × List (List D)) : Prop := st.2.length + 1 ≤ 60 ∧ (∀ d ∈ st.1, Vd (59 - st.2.length) d) ∧ ∀ i (r : List D), st.2[i]? = some r → ∀ d ∈ r, Vd (60 - st.2.length + i) d
theorem readMark_ok {k : List Nat} {d : D} (h : readMark k = some d) : Vd 0 d ∧ textL d = k := by
  unfold readMark at h
  split at h
  · rename_i e
    cases h
    exact ⟨trivial, by rw [e]; simp [textL]⟩
  · split at h
    · cases h
      exact ⟨trivial, by simp [textL, tl_sO]⟩
    · split at h
      · rename_i i hi
        cases h
        exact ⟨whole_lt hi, by simp only [textL]; exact whole_str hi⟩
      · cases h
theorem step_ok {st st' : List D × List (List D)} {k : List Nat} (h : step st k = some st') (v : stV st) : stV st' ∧ stW st' ≤ stW st + k.length + 3 := by
  obtain ⟨t, b⟩ := st
  obtain ⟨v1, v2, v3⟩ := v
  simp only at v1 v2 v3
  unfold step at h
  split at h
  · split at h
    · rename_i hk hl
      cases h
      simp only at hl
      refine ⟨⟨by simp; omega, by simp, fun i r hi d hd => ?_⟩, ?_⟩
      · simp only [List.length_cons]
        cases i with
        | zero =>
          simp at hi
          subst hi
          exact (v2 d hd).up (by omega)
        | succ i =>
          simp at hi
          exact (v3 i r hi d hd).up (by omega)
      · simp only [stW, wt_nil, List.map_cons, List.sum_cons]
        omega
    · cases h
  · split at h
    · cases b with
      | nil => cases h
      | cons u b =>
        cases h
        simp only [List.length_cons] at v1 v2 v3
        refine ⟨⟨by simp only; omega, fun d hd => ?_, fun i r hi d hd => ?_⟩, ?_⟩
        · simp only at hd ⊢
          rcases List.mem_append.1 hd with hd | hd
          · have := v3 0 u rfl d hd
            exact this.up (by omega)
          · rw [List.mem_singleton.1 hd]
            rw [show 59 - b.length = (58 - b.length) + 1 by omega]
            exact fun e he => (v2 e he).up (by omega)
        · simp only at hi ⊢
          exact (v3 (i + 1) r (by simpa using hi) d hd).up (by omega)
        · have := tup_len t
          simp only [stW, wt_snoc, List.map_cons, List.sum_cons]
          omega
    · split at h
      · rename_i d hd
        cases h
        obtain ⟨r1, r2⟩ := readMark_ok hd
        refine ⟨⟨v1, fun e he => ?_, v3⟩, ?_⟩
        · rcases List.mem_append.1 he with he | he
          · exact v2 e he
          · rw [List.mem_singleton.1 he]
            exact r1.up (Nat.zero_le _)
        · simp only [stW, wt_snoc, r2]
          omega
      · cases h
def mkW (ms : List (List Nat)) : Nat := (ms.map fun k => k.length + 3).sum
theorem run_ok : ∀ {ms : List (List Nat)} {st st' : List D × List (List D)}, run st ms = some st' → stV st → stV st' ∧ stW st' ≤ stW st + mkW ms
  | [], st, st', h, v => by
    cases h
    exact ⟨v, by simp [mkW]⟩
  | k :: ms, st, st', h, v => by
    unfold run at h
    split at h
    · rename_i s1 h1
      obtain ⟨v1, w1⟩ := step_ok h1 v
      obtain ⟨v2, w2⟩ := run_ok h v1
      refine ⟨v2, ?_⟩
      simp only [mkW, List.map_cons, List.sum_cons] at w2 ⊢
      omega
    · cases h
open NumText
/-! a written value is read -/
def Gv : Nat → D → Prop
  | _, .non => True
  | _, .int i => i.natAbs < 10 ^ 60
  | _, .str s => s.cps.toList ≠ [] ∧ s.cps.toList.all letB = true
  | 0, .tup _ => False
  | n + 1, .tup l => ∀ d ∈ l, Gv n d
  | _, _ => False
theorem Gv.up : ∀ {n k : Nat} {d : D}, n ≤ k → Gv n d → Gv k d
  | 0, 0, _, _, h => h
  | 0, k + 1, .non, _, h => h
  | 0, k + 1, .int _, _, h => h
  | 0, k + 1, .str _, _, h => h
  | 0, k + 1, .tup _, _, h => h.elim
  | n + 1, 0, _, hn, _ => absurd hn (by omega)
  | n + 1, k + 1, .non, _, h => h
  | n + 1, k + 1, .int _, _, h => h
  | n + 1, k + 1, .str _, _, h => h
  | n + 1, k + 1, .tup l, hn, h => fun d hd => Gv.up (Nat.le_of_succ_le_succ hn) (h d hd)
theorem Gv.vd : ∀ {n : Nat} {d : D}, Gv n d → Vd n d
  | 0, .non, h => trivial
  | 0, .int _, h => h
  | 0, .str _, h => trivial
  | 0, .tup _, h => h.elim
  | n + 1, .non, h => trivial
  | n + 1, .int _, h => h
  | n + 1, .str _, h => trivial
  | n + 1, .tup l, h => fun d hd => Gv.vd (h d hd)
def isTupD : D → Bool
  | .tup _ => true
  | _ => false
mutual
def mk : D → List (List Nat)
  | .tup l => [40] :: (mkL l ++ [[41]])
  | .non => [textL .non]
  | .int i => [textL (.int i)]
  | .str s => [textL (.str s)]
  | _ => []
def mkL : List D → List (List Nat)
  | [] => []
  | d :: l => mk d ++ mkL l
end
theorem mk_atom {n : Nat} {d : D} (h : Gv n d) (ht : isTupD d = false) : mk d = [textL d] := by
  cases d with
  | tup l => cases ht
  | non => simp [mk]
  | int i => simp [mk]
  | str s => simp [mk]
  | _ => cases n <;> exact h.elim
theorem sign_ne {c : Nat} {k : List Nat} (hk : ∀ x ∈ k, x = 45 ∨ (48 ≤ x ∧ x ≤ 57) ∨ (97 ≤ x ∧ x ≤ 122) ∨ x = 46) (h : c = 32 ∨ c = 40 ∨ c = 41) : c ∉ k := fun hm => by
  have := hk c hm
  omega
theorem int_signs (i : Int) : ∀ x ∈ intL i, x = 45 ∨ (48 ≤ x ∧ x ≤ 57) := by
  intro x hx
  unfold intL at hx
  split at hx
  · rcases List.mem_cons.1 hx with e | e
    · exact .inl e
    · exact .inr (TL.numL_digits _ x e)
  · exact .inr (TL.numL_digits _ x hx)
theorem int_ne (i : Int) : intL i ≠ [] := by
  unfold intL
  split
  · simp
  · exact TL.numL_ne _
theorem whole_int {i : Int} (h : i.natAbs < 10 ^ 60) : wholeL (intL i) = some i := by
  have hl := TL.numL_len (n := i.natAbs) (k := 60) (by decide) h
  have ok : wOk (TL.numL i.natAbs) := ⟨canB_num _, hl⟩
  have hv := TL.numL_val i.natAbs
  unfold intL
  split
  · rename_i hn
    rw [whole_neg ok, hv]
    · congr 1; omega
    · intro e
      rw [e] at hv
      have : i.natAbs = 0 := hv.symm
      omega
  · rw [whole_pos ok, hv]
    congr 1
    omega
theorem read_back {n : Nat} {d : D} (h : Gv n d) (ht : isTupD d = false) : readMark (textL d) = some d ∧ textL d ≠ [] ∧ ∀ x ∈ textL d, x = 45 ∨ (48 ≤ x ∧ x ≤ 57) ∨ (97 ≤ x ∧ x ≤ 122) ∨ x = 46 := by
  cases d with
  | tup l => cases ht
  | non => simp [textL, readMark]
  | int i =>
    have hi : i.natAbs < 10 ^ 60 := by cases n <;> exact h
    have hw := whole_int hi
    have hs := int_signs i
    have hne := int_ne i
    simp only [textL]
    refine ⟨?_, hne, fun x hx => ?_⟩
    · unfold readMark
      rw [if_neg, if_neg, hw]
      · intro ha
        cases hl : intL i with
        | nil => exact hne hl
        | cons c r =>
          rw [hl] at ha hs
          have h1 := hs c (by simp)
          have h2 : letB c = true := List.all_eq_true.1 ha c (by simp)
          simp only [letB, Bool.and_eq_true, decide_eq_true_eq] at h2
          omega
      · intro e
        have := hs 46 (by rw [e]; simp)
        omega
    · rcases hs x hx with e | e
      · exact .inl e
      · exact .inr (.inl e)
  | str s =>
    have hs : s.cps.toList ≠ [] ∧ s.cps.toList.all letB = true := by cases n <;> exact h
    simp only [textL]
    refine ⟨?_, hs.1, fun x hx => ?_⟩
    · unfold readMark
      rw [if_neg, if_pos hs.2, sO_tl]
      intro e
      have := hs.2
      rw [e] at this
      exact absurd this (by decide)
    · have h2 : letB x = true := List.all_eq_true.1 hs.2 x hx
      simp only [letB, Bool.and_eq_true, decide_eq_true_eq] at h2
      exact .inr (.inr (.inl h2))
  | _ => cases n <;> exact h.elim
theorem exp_app (a b : List Nat) : expL (a ++ b) = expL a ++ expL b := by simp [expL]
theorem exp_atom {k : List Nat} (h1 : 40 ∉ k) (h2 : 41 ∉ k) : expL k = k := by
  unfold expL
  induction k with
  | nil => rfl
  | cons c k ih =>
    rw [List.flatMap_cons, ih (fun h => h1 (List.mem_cons_of_mem _ h)) (fun h => h2 (List.mem_cons_of_mem _ h))]
    have e1 : c ≠ 40 := fun e => h1 (by rw [e]; simp)
    have e2 : c ≠ 41 := fun e => h2 (by rw [e]; simp)
    simp [ex, e1, e2]
theorem exp_40 (r : List Nat) : expL (40 :: r) = 32 :: 40 :: 32 :: expL r := by simp [expL, ex]
theorem exp_41 (r : List Nat) : expL (41 :: r) = 32 :: 41 :: 32 :: expL r := by simp [expL, ex]
theorem exp_32 (r : List Nat) : expL (32 :: r) = 32 :: expL r := by simp [expL, ex]
theorem words_40 (r : List Nat) : words (expL (40 :: r)) [] = [40] :: words (expL r) [] := by rw [exp_40]; simp [words]
theorem words_41 (r : List Nat) : words (expL (41 :: r)) [] = [41] :: words (expL r) [] := by rw [exp_41]; simp [words]
theorem words_32 (r : List Nat) : words (expL (32 :: r)) [] = words (expL r) [] := by rw [exp_32]; simp [words]
def sepH (r : List Nat) : Prop := r = [] ∨ ∃ r', r = 32 :: r' ∨ r = 41 :: r'
theorem words_sep {r k : List Nat} (hr : sepH r) (hk : k ≠ []) : words (expL r) k = k :: words (expL r) [] := by
  rcases hr with rfl | ⟨r', rfl | rfl⟩
  · simp [expL, words, hk]
  · rw [exp_32]; simp [words, hk]
  · rw [exp_41]; simp [words, hk]
theorem words_atom {n : Nat} {d : D} (h : Gv n d) (ht : isTupD d = false) {r : List Nat} (hr : sepH r) : words (expL (textL d ++ r)) [] = mk d ++ words (expL r) [] := by
  obtain ⟨_, h2, h3⟩ := read_back h ht
  rw [exp_app, exp_atom (sign_ne h3 (by simp)) (sign_ne h3 (by simp)), words_run _ _ _ (sign_ne h3 (by simp)), List.nil_append, words_sep hr h2, mk_atom h ht]
  rfl
mutual
theorem words_mk : ∀ {n : Nat} (d : D), Gv n d → ∀ {r : List Nat}, sepH r → words (expL (textL d ++ r)) [] = mk d ++ words (expL r) []
  | 0, .tup l, h, _, _ => h.elim
  | n + 1, .tup l, h, r, hr => by
    have ih := words_mkL l h r
    have e : textL (.tup l) ++ r = 40 :: (textLs l ++ 41 :: r) := by simp [textL]
    rw [e, words_40, ih, words_41, mk]
    simp
  | n, .non, h, _, hr => words_atom h rfl hr
  | n, .int _, h, _, hr => words_atom h rfl hr
  | n, .str _, h, _, hr => words_atom h rfl hr
  | 0, .bl _, h, _, _ => h.elim
  | n + 1, .bl _, h, _, _ => h.elim
  | 0, .lst _, h, _, _ => h.elim
  | n + 1, .lst _, h, _, _ => h.elim
  | 0, .ro _, h, _, _ => h.elim
  | n + 1, .ro _, h, _, _ => h.elim
  | 0, .loc _, h, _, _ => h.elim
  | n + 1, .loc _, h, _, _ => h.elim
theorem words_mkL : ∀ {n : Nat} (l : List D), (∀ d ∈ l, Gv n d) → ∀ r : List Nat, words (expL (textLs l ++ 41 :: r)) [] = mkL l ++ words (expL (41 :: r)) []
  | n, [], h, r => by simp [textLs, mkL]
  | n, [d], h, r => by
    have := words_mk d (h d (by simp)) (r := 41 :: r) (.inr ⟨r, .inr rfl⟩)
    simp only [textLs, mkL, List.append_nil]
    exact this
  | n, d :: e :: l, h, r => by
    have ih := words_mkL (e :: l) (fun x hx => h x (List.mem_cons_of_mem _ hx)) r
    have := words_mk d (h d (by simp)) (r := 32 :: (textLs (e :: l) ++ 41 :: r)) (.inr ⟨_, .inl rfl⟩)
    rw [textLs, mkL, List.append_assoc, List.cons_append, this, words_32, ih, List.append_assoc]
end
theorem marks_mk {n : Nat} {d : D} (h : Gv n d) : marks (textL d) = mk d := by
  have := words_mk d h (r := []) (.inl rfl)
  rw [List.append_nil] at this
  unfold marks
  rw [this]
  simp [expL, words]
theorem not_par {k : List Nat} {d : D} (h : readMark k = some d) (hk : ∀ x ∈ k, x = 45 ∨ (48 ≤ x ∧ x ≤ 57) ∨ (97 ≤ x ∧ x ≤ 122) ∨ x = 46) : k ≠ [40] ∧ k ≠ [41] := by
  constructor
  · intro e; have := hk 40 (by rw [e]; simp); omega
  · intro e; have := hk 41 (by rw [e]; simp); omega
theorem run_atom {n : Nat} {d : D} (h : Gv n d) (ht : isTupD d = false) (t : List D) (b : List (List D)) (ms : List (List Nat)) : run (t, b) (mk d ++ ms) = run (t ++ [d], b) ms := by
  obtain ⟨h1, _, h3⟩ := read_back h ht
  obtain ⟨e1, e2⟩ := not_par h1 h3
  rw [mk_atom h ht]
  show run (t, b) (textL d :: ms) = _
  rw [run]
  have : step (t, b) (textL d) = some (t ++ [d], b) := by unfold step; rw [if_neg e1, if_neg e2, h1]
  rw [this]
mutual
theorem run_mk : ∀ {n : Nat} (d : D), Gv n d → ∀ (t : List D) (b : List (List D)) (ms : List (List Nat)), b.length + 1 + n ≤ 60 → run (t, b) (mk d ++ ms) = run (t ++ [d], b) ms
  | 0, .tup l, h, _, _, _, _ => h.elim
  | n + 1, .tup l, h, t, b, ms, hb => by
    have ih := run_mkL l h [] (t :: b) ([41] :: ms) (by simp; omega)
    rw [List.nil_append] at ih
    have e : mk (.tup l) ++ ms = [40] :: (mkL l ++ [41] :: ms) := by simp [mk]
    have s1 : step (t, b) [40] = some ([], t :: b) := by unfold step; rw [if_pos rfl, if_pos (by simp only; omega)]
    have s2 : step (l, t :: b) [41] = some (t ++ [.tup l], b) := by unfold step; rw [if_neg (by decide), if_pos rfl]
    rw [e, run, s1]
    simp only
    rw [ih, run, s2]
  | n, .non, h, t, b, ms, _ => run_atom h rfl t b ms
  | n, .int _, h, t, b, ms, _ => run_atom h rfl t b ms
  | n, .str _, h, t, b, ms, _ => run_atom h rfl t b ms
  | 0, .bl _, h, _, _, _, _ => h.elim
  | n + 1, .bl _, h, _, _, _, _ => h.elim
  | 0, .lst _, h, _, _, _, _ => h.elim
  | n + 1, .lst _, h, _, _, _, _ => h.elim
  | 0, .ro _, h, _, _, _, _ => h.elim
  | n + 1, .ro _, h, _, _, _, _ => h.elim
  | 0, .loc _, h, _, _, _, _ => h.elim
  | n + 1, .loc _, h, _, _, _, _ => h.elim
theorem run_mkL : ∀ {n : Nat} (l : List D), (∀ d ∈ l, Gv n d) → ∀ (t : List D) (b : List (List D)) (ms : List (List Nat)), b.length + 1 + n ≤ 60 → run (t, b) (mkL l ++ ms) = run (t ++ l, b) ms
  | n, [], h, t, b, ms, _ => by simp [mkL]
  | n, d :: l, h, t, b, ms, hb => by
    rw [mkL, List.append_assoc, run_mk d (h d (by simp)) t b _ hb, run_mkL l (fun x hx => h x (List.mem_cons_of_mem _ hx)) (t ++ [d]) b ms hb, List.append_assoc]
    rfl
end
theorem parse_text {n : Nat} {d : D} (h : Gv n d) (hn : n ≤ 58) : parse (textL d) = some d := by
  have := run_mk d h [] [] [] (by simp; omega)
  rw [List.append_nil] at this
  unfold parse
  rw [marks_mk h, this]
  simp [run]
end Z

set_option maxRecDepth 100000
set_option maxHeartbeats 2000000
set_option autoImplicit false
namespace Z
open PySem PySem.Spec PyProof.Rows L2
open NumText
theorem wt_len : ∀ l : List D, wt l ≤ (textLs l).length + 1
  | [] => by simp [textLs, wt]
  | [d] => by simp [textLs, wt]
  | d :: e :: l => by
    have ih := wt_len (e :: l)
    have h : wt (d :: e :: l) = ((textL d).length + 1) + wt (e :: l) := by simp [wt]
    rw [textLs, h]
    simp only [List.length_append, List.length_cons]
    omega
theorem wt_tup (l : List D) : wt l ≤ (textL (.tup l)).length + 1 := by
  have := wt_len l
  simp only [textL, List.length_cons, List.length_append, List.length_nil]
  omega
theorem len_wt (l : List D) : l.length ≤ wt l := by
  induction l with
  | nil => simp
  | cons d l ih =>
    simp only [wt, List.map_cons, List.sum_cons, List.length_cons] at ih ⊢
    omega
theorem len_map (l : List D) : ((l.map fun d => sO (textL d)).map (·.length)).sum + (l.map fun d => sO (textL d)).length * 1 = wt l := by
  induction l with
  | nil => rfl
  | cons d l ih =>
    simp only [List.map_cons, List.sum_cons, List.length_cons, wt, sO_len] at ih ⊢
    omega
theorem oJoin_texts (l : List D) (m : Mem) (h : wt l ≤ 10000000) : oJoin (.str " ") (.lst (l.map fun d => .str (sO (textL d)))) m = some (.str (sO (textLs l))) := by
  have e : (l.map fun d => D.str (sO (textL d))) = (l.map fun d => sO (textL d)).map D.str := by rw [List.map_map]; rfl
  rw [e]
  unfold oJoin
  simp only [asLT, asL, strsOf_map]
  have hl := len_map l
  rw [if_pos (by
    rw [show Str.length (Str.ofString " ") = 1 from rfl, hl]
    exact slLe h)]
  have hj := joinO [32] (l.map textL)
  rw [List.map_map] at hj
  have : Txt.join " " (l.map fun d => sO (textL d)) = sO (textLs l) := by
    rw [textLs_join]
    exact hj
  rw [this]
theorem kind_no {n : Nat} {d : D} (h : Vd n d) (ht : isTupD d = false) : (d = .non) ∨ (∃ i : Int, d = .int i ∧ i.natAbs < 10 ^ 60) ∨ ∃ s, d = .str s := by
  cases d with
  | tup l => cases ht
  | non => exact .inl rfl
  | int i => exact .inr (.inl ⟨i, rfl, by cases n <;> exact h⟩)
  | str s => exact .inr (.inr ⟨s, rfl⟩)
  | _ => cases n <;> exact h.elim
theorem lp_eq : ("(" : Str) = sO [40] := rfl
theorem rp_eq : (")" : Str) = sO [41] := rfl
theorem par_add (l : List Nat) (m : Mem) (h : l.length ≤ 1000002) : ∃ x, oAdd (.str "(") (.str (sO l)) m = some (.str x) ∧ oAdd (.str x) (.str ")") m = some (.str (sO (40 :: (l ++ [41])))) := by
  refine ⟨sO (40 :: l), ?_, ?_⟩
  · rw [oAdd_str, if_pos (slLe (by rw [sO_len]; have : Str.length "(" = 1 := rfl; omega)), lp_eq, sO_app]
    rfl
  · rw [oAdd_str, if_pos (slLe (by rw [sO_len, List.length_cons]; have : Str.length ")" = 1 := rfl; omega)), rp_eq, sO_app]
    rfl
theorem wF_write : ∀ (n : Nat) (d : D) (m : Mem), Vd n d → (textL d).length ≤ 1000000 → wpE (F_write_value (n + 1) [d] m) fun r m1 => r = .str (sO (textL d)) ∧ m1 = m := by
  have atom : ∀ (n : Nat) (d : D) (m : Mem), Vd n d → isTupD d = false → wpE (F_write_value (n + 1) [d] m) fun r m1 => r = .str (sO (textL d)) ∧ m1 = m := by
    intro n d m hd ht
    refine wp_fn ?_
    rcases kind_no hd ht with rfl | ⟨i, rfl, hi⟩ | ⟨s, rfl⟩
    · simp [B_write_value, startE, oIs_non, isNonD, textL]
      rfl
    · have := oStr_int m (pow60 hi) (by decide)
      simp [B_write_value, startE, oIs_non, isNonD, textL, oIsi, kindD, isKind, this]
    · simp [B_write_value, startE, oIs_non, isNonD, textL, oIsi, kindD, isKind, sO_tl]
  intro n
  induction n with
  | zero =>
    intro d m hd hl
    by_cases ht : isTupD d = true
    · cases d with
      | tup l => exact hd.elim
      | _ => cases ht
    · exact atom 0 d m hd (by simpa using ht)
  | succ n ih =>
    intro d m hd hl
    by_cases ht : isTupD d = true
    · cases d with
      | tup l =>
        have hw := wt_tup l
        have hll : l.length ≤ SL := slLe (by
          have := len_wt l
          omega)
        have hlc := wp_lc (T := .n 1) (t := tYesF) (p := pApp (F_write_value (n + 1)) 1 (pCons (pVar 1) pNil)) (e := [some (.tup l), none]) (fun m1 => m1 = m) (fun _ => true) (fun d => .str (sO (textL d))) l m (by
          intro d hd' m1 hm
          subst hm
          refine ⟨_, rfl, ?_⟩
          simp [tYesF]
          exact ih d m1 (hd d hd') (by have := mem_wt hd'; omega)) rfl
        rw [List.filter_eq_self.2 (fun _ _ => rfl)] at hlc
        have hj := oJoin_texts l m (by omega)
        obtain ⟨x, a1, a2⟩ := par_add (textLs l) m (by have := textLs_len l; omega)
        refine wp_fn ?_
        simp [B_write_value, startE, oIs_non, isNonD, oIsi, kindD, isKind, pLc, pLcG_app, hll]
        refine hlc.mono ?_
        rintro ys m1 ⟨rfl, rfl⟩
        simp [hj, a1, a2, textL]
      | _ => cases ht
    · exact atom (n + 1) d m hd (by simpa using ht)
theorem wF_text : ∀ (n : Nat) (d : D) (m : Mem), Vd n d → (textL d).length ≤ 1000000 → wpE (F__law_m_text (n + 1) [d] m) fun r m1 => r = .str (sO (textL d)) ∧ m1 = m := by
  have atom : ∀ (n : Nat) (d : D) (m : Mem), Vd n d → isTupD d = false → wpE (F__law_m_text (n + 1) [d] m) fun r m1 => r = .str (sO (textL d)) ∧ m1 = m := by
    intro n d m hd ht
    refine wp_fn ?_
    rcases kind_no hd ht with rfl | ⟨i, rfl, hi⟩ | ⟨s, rfl⟩
    · simp [B__law_m_text, startE, oIs_non, isNonD, textL]
      rfl
    · have := oStr_int m (pow60 hi) (by decide)
      have : oStrS [.int i] m = some (.str (sO (intL i))) := this
      simp [B__law_m_text, startE, oIs_non, isNonD, textL, oIsi, kindD, isKind, this]
    · have : oStrS [.str s] m = some (.str s) := rfl
      simp [B__law_m_text, startE, oIs_non, isNonD, textL, oIsi, kindD, isKind, sO_tl, this]
  intro n
  induction n with
  | zero =>
    intro d m hd hl
    by_cases ht : isTupD d = true
    · cases d with
      | tup l => exact hd.elim
      | _ => cases ht
    · exact atom 0 d m hd (by simpa using ht)
  | succ n ih =>
    intro d m hd hl
    by_cases ht : isTupD d = true
    · cases d with
      | tup l =>
        have hw := wt_tup l
        have hll : l.length ≤ SL := slLe (by
          have := len_wt l
          omega)
        have hlc := wp_lc (T := .n 1) (t := tYesF) (p := pApp (F__law_m_text (n + 1)) 1 (pCons (pVar 1) pNil)) (e := [some (.tup l), none]) (fun m1 => m1 = m) (fun _ => true) (fun d => .str (sO (textL d))) l m (by
          intro d hd' m1 hm
          subst hm
          refine ⟨_, rfl, ?_⟩
          simp [tYesF]
          exact ih d m1 (hd d hd') (by have := mem_wt hd'; omega)) rfl
        rw [List.filter_eq_self.2 (fun _ _ => rfl)] at hlc
        have hj := oJoin_texts l m (by omega)
        obtain ⟨x, a1, a2⟩ := par_add (textLs l) m (by have := textLs_len l; omega)
        refine wp_fn ?_
        simp [B__law_m_text, startE, oIs_non, isNonD, oIsi, kindD, isKind, pLc, pLcG_app, hll]
        refine hlc.mono ?_
        rintro ys m1 ⟨rfl, rfl⟩
        simp [hj, a1, a2, textL]
      | _ => cases ht
    · exact atom (n + 1) d m hd (by simpa using ht)
open NumText
theorem repl_one (c : Nat) (z : List Nat) (l : List Nat) : StrLaws.replL [c] z l = l.flatMap fun d => if d = c then z else [d] := by
  induction l with
  | nil => exact StrLaws.replL_nil
  | cons d l ih =>
    by_cases h : d = c
    · subst h
      rw [StrLaws.replL_hit (by simp) (by simp), List.flatMap_cons, if_pos rfl]
      simp [ih]
    · rw [StrLaws.replL_miss (by simpa using h), ih, List.flatMap_cons, if_neg h]
      rfl
theorem replO (l z : List Nat) (c : Nat) : Txt.replace (sO l) (sO [c]) (sO z) = sO (l.flatMap fun d => if d = c then z else [d]) := by
  rw [← sO_tl (Txt.replace _ _ _), StrLaws.replace_list (x := sO l) (y := sO [c]) (z := sO z) (by rw [sO_len]; exact Nat.le_refl 1)]
  exact congrArg sO (repl_one c z l)
theorem exp_two (t : List Nat) : ((t.flatMap fun d => if d = 40 then [32, 40, 32] else [d]).flatMap fun d => if d = 41 then [32, 41, 32] else [d]) = expL t := by
  unfold expL
  rw [List.flatMap_assoc]
  refine congrArg (fun f => t.flatMap f) (funext fun c => ?_)
  unfold ex
  by_cases h1 : c = 40
  · simp [h1]
  · by_cases h2 : c = 41
    · simp [h1, h2]
    · simp [h1, h2]
theorem flat_len (t : List Nat) (f : Nat → List Nat) (h : ∀ c, (f c).length ≤ 3) : (t.flatMap f).length ≤ 3 * t.length := by
  induction t with
  | nil => simp
  | cons c t ih =>
    rw [List.flatMap_cons, List.length_append, List.length_cons]
    have := h c
    omega
theorem signs_eq (t : List Nat) (m : Mem) (ht : t.length ≤ 100000) {ps : List (List Nat)} (h0 : ps ≠ []) (h32 : ∀ p ∈ ps, 32 ∉ p) (he : expL t = TL.joinL [32] ps) : F_signs_of [.str (sO t)] m = some (.ok (.lst ((ps.map sO).map D.str)) m) := by
  have l1 := flat_len t (fun d => if d = 40 then [32, 40, 32] else [d]) (fun c => by by_cases h : c = 40 <;> simp [h])
  have l2 : (expL t).length ≤ 3 * t.length := flat_len t ex (fun c => by unfold ex; split; · simp
                                                                         · split <;> simp)
  have r1 := replO t [32, 40, 32] 40
  have r2 := replO (t.flatMap fun d => if d = 40 then [32, 40, 32] else [d]) [32, 41, 32] 41
  rw [exp_two] at r2
  have hs := splitO (s := 32) (by decide) h0 h32
  rw [← he] at hs
  have hp1 : pRepl "(" " ( " (pVar 0) (startE 1 [.str (sO t)]) m = some (.ok (.str (sO (t.flatMap fun d => if d = 40 then [32, 40, 32] else [d]))) m) := by
    show (if (sO t).length + ((sO t).length + 1) * Str.length " ( " ≤ 16777216 then _ else _) = _
    rw [if_pos (by rw [sO_len, show Str.length " ( " = 3 from rfl]; omega)]
    rw [show ("(" : Str) = sO [40] from rfl, show (" ( " : Str) = sO [32, 40, 32] from rfl, r1]
  have hp2 : pRepl ")" " ) " (pRepl "(" " ( " (pVar 0)) (startE 1 [.str (sO t)]) m = some (.ok (.str (sO (expL t))) m) := by
    unfold pRepl at hp1 ⊢
    rw [hp1]
    show (if (sO _).length + ((sO _).length + 1) * Str.length " ) " ≤ 16777216 then _ else _) = _
    rw [if_pos (by rw [sO_len, show Str.length " ) " = 3 from rfl]; omega)]
    rw [show (")" : Str) = sO [41] from rfl, show (" ) " : Str) = sO [32, 41, 32] from rfl, r2]
  have hsp : oSplit (.str (sO (expL t))) (.str " ") m = some (.lst ((ps.map sO).map D.str)) := by
    show (if _ then _ else none) = _
    rw [if_pos ⟨by decide, slLe (by rw [sO_len]; omega)⟩, show (" " : Str) = sO [32] from rfl, hs]
  unfold F_signs_of pFn B_signs_of
  simp [hp2, hsp]
theorem in_lets (c : Nat) (s : Str) (hs : s = sO [97, 98, 99, 100, 101, 102, 103, 104, 105, 106, 107, 108, 109, 110, 111, 112, 113, 114, 115, 116, 117, 118, 119, 120, 121, 122]) (m : Mem) : oIn (.str (sO [c])) (.str s) m = some (.bl (letB c)) := by
  subst hs
  unfold oIn oInB
  have h1 : (sO [c]).cps.size = 1 := rfl
  simp only [h1, if_true, tl_sO]
  have h2 : (sO [c]).cps.getD 0 0 = c := rfl
  rw [h2]
  show some (D.bl _) = _
  congr 2
  rw [Bool.eq_iff_iff]
  simp [letB]
  omega
theorem rm_all (k : List Nat) (m : Mem) (hk : k.length ≤ 100000) : pCall oAll (pCons (pLc [1] (iSeq (pVar 0)) (.n 1) tYesF (pBin oIn (pVar 1) (pC C_LETTERS))) pNil) [some (.str (sO k)), none] m = some (.ok (.bl (k.all letB)) m) := by
  have hl : k.length ≤ SL := slLe (by omega)
  have key := lc_map (T := .n 1) (p := pBin oIn (pVar 1) (pC C_LETTERS)) (e := [some (.str (sO k)), none]) (m := m) (fun d => .bl (letB (c1D d))) (k.map fun c => D.str (sO [c])) (by
    intro d hd
    obtain ⟨c, hc, rfl⟩ := List.mem_map.1 hd
    refine ⟨_, rfl, ?_⟩
    have h := in_lets c "abcdefghijklmnopqrstuvwxyz" rfl m
    simp [C_LETTERS, h]
    rfl)
  simp [pLc, pLcG_app, hl, key, finL, finF]
  have := all_lc (fun d => letB (c1D d)) (k.map fun c => D.str (sO [c])) m
  rw [List.filter_eq_self.2 (fun _ _ => rfl)] at this
  rw [List.map_map, List.all_map] at this
  rw [this]
  rfl
def resM (o : Option D) (m : Mem) : Out D := match o with
  | some d => .ok d m
  | none => .exc "BadText" m
theorem dot_eq : ("." : Str) = sO [46] := rfl
theorem read_mark_eq (k : List Nat) (m : Mem) (hk : k.length ≤ 90000) : F_read_mark [.str (sO k)] m = some (resM (readMark k) m) := by
  have ha := rm_all k m (by omega)
  have hw := read_whole_eq k m hk
  simp at ha
  have hd : (sO k = ".") ↔ k = [46] := by rw [dot_eq, sO_inj]
  unfold F_read_mark pFn B_read_mark readMark
  by_cases h1 : k = [46]
  · have := hd.2 h1
    rw [if_pos h1]
    simp [startE, eq_true this, resM]
  · rw [if_neg h1]
    have h1' : ¬ sO k = "." := fun e => h1 (hd.1 e)
    by_cases h2 : k.all letB = true
    · rw [if_pos h2]
      rw [h2] at ha
      simp [startE, h1', ha, resM]
    · rw [if_neg h2]
      have h2' : k.all letB = false := by simpa using h2
      rw [h2'] at ha
      cases hv : wholeL k with
      | none =>
        rw [hv] at hw
        simp [startE, h1', ha, resM, hw, resW]
      | some i =>
        rw [hv] at hw
        simp [startE, h1', ha, resM, hw, resW]
end Z

set_option maxRecDepth 100000
set_option maxHeartbeats 2000000
set_option autoImplicit false
namespace Z
open PySem PySem.Spec PyProof.Rows L2
open NumText
structure SI (m0 : Mem) (t : List D) (b : List (List D)) (a lt : Nat) (lb : List Nat) (m : Mem) : Prop where
  ca : m[a]? = some (.lst ((lb.reverse ++ [lt]).map D.loc))
  ct : m[lt]? = some (.lst t)
  len : lb.length = b.length
  cb : ∀ (i : Nat) (r : List D), b[i]? = some r → ∃ j, lb[i]? = some j ∧ m[j]? = some (.lst r)
  nd : (a :: lt :: lb).Nodup
  lo : ∀ j ∈ a :: lt :: lb, m0.length ≤ j
  keep : Keep m0 m
theorem SI.lt_len {m0 : Mem} {t : List D} {b : List (List D)} {a lt : Nat} {lb : List Nat} {m : Mem} (s : SI m0 t b a lt lb m) : ∀ j ∈ a :: lt :: lb, j < m.length := by
  intro j hj
  rcases List.mem_cons.1 hj with rfl | hj
  · exact (List.getElem?_eq_some_iff.1 s.ca).1
  · rcases List.mem_cons.1 hj with rfl | hj
    · exact (List.getElem?_eq_some_iff.1 s.ct).1
    · obtain ⟨i, hi, e⟩ := List.mem_iff_getElem.1 hj
      have hb : i < b.length := by rw [← s.len]; exact hi
      obtain ⟨j', h1, h2⟩ := s.cb i b[i] (List.getElem?_eq_getElem hb)
      rw [List.getElem?_eq_getElem hi, e] at h1
      cases h1
      exact (List.getElem?_eq_some_iff.1 h2).1
theorem get_set_ne {m : Mem} {i j : Nat} {c : Cell} (h : i ≠ j) : (m.set i c)[j]? = m[j]? := List.getElem?_set_ne h
theorem SI.push {m0 : Mem} {t : List D} {b : List (List D)} {a lt : Nat} {lb : List Nat} {m : Mem} (s : SI m0 t b a lt lb m) (hl : b.length ≤ 1000) :
    ∃ m', oApp a (.loc m.length) (m ++ [.lst []]) = some (.ok .non m') ∧ SI m0 [] (t :: b) a m.length (lt :: lb) m' := by
  have L := s.lt_len
  have nd := s.nd
  have up : ∀ j, j < m.length → (m ++ [Cell.lst []])[j]? = m[j]? := fun j hj => List.getElem?_append_left hj
  have la := L a (by simp)
  have ha : (m ++ [Cell.lst []])[a]? = some (.lst ((lb.reverse ++ [lt]).map D.loc)) := by rw [up a la]; exact s.ca
  refine ⟨_, oApp_at ha (slLt (by simp; have := s.len; omega)), ?_⟩
  have st : ∀ j, j < m.length → j ≠ a → ((m ++ [Cell.lst []]).set a (.lst (((lb.reverse ++ [lt]).map D.loc) ++ [.loc m.length])))[j]? = m[j]? := fun j hj hn => by rw [get_set_ne (Ne.symm hn), up j hj]
  have an : a ∉ lt :: lb := (List.nodup_cons.1 nd).1
  constructor
  · rw [List.getElem?_set_self (by simp; omega)]
    simp
  · rw [get_set_ne (by omega), List.getElem?_append_right (Nat.le_refl _), Nat.sub_self]; rfl
  · simp [s.len]
  · intro i r hi
    cases i with
    | zero =>
      simp at hi
      subst hi
      exact ⟨lt, rfl, by rw [st lt (L lt (by simp)) (fun e => an (by rw [e]; simp))]; exact s.ct⟩
    | succ i =>
      obtain ⟨j, h1, h2⟩ := s.cb i r (by simpa using hi)
      refine ⟨j, by simpa using h1, ?_⟩
      have hj : j ∈ lb := List.mem_of_getElem? h1
      rw [st j (L j (by simp [hj])) (fun e => an (by rw [← e]; simp [hj]))]
      exact h2
  · have h1 : ∀ j ∈ a :: lt :: lb, j ≠ m.length := fun j hj => by have := L j hj; omega
    have nn := List.nodup_cons.1 nd
    refine List.nodup_cons.2 ⟨fun h => ?_, List.nodup_cons.2 ⟨fun h => ?_, nn.2⟩⟩
    · rcases List.mem_cons.1 h with e | e
      · exact h1 a (by simp) e
      · exact nn.1 e
    · exact h1 m.length (List.mem_cons_of_mem _ h) rfl
  · intro j hj
    rcases List.mem_cons.1 hj with rfl | hj
    · exact s.lo _ (by simp)
    · rcases List.mem_cons.1 hj with rfl | hj
      · have := s.lo a (by simp); omega
      · exact s.lo j (List.mem_cons_of_mem _ hj)
  · exact (s.keep.trans (Keep.push m _)).set (s.lo a (by simp)) _
theorem SI.app {m0 : Mem} {t : List D} {b : List (List D)} {a lt : Nat} {lb : List Nat} {m : Mem} (s : SI m0 t b a lt lb m) (d : D) (hl : t.length ≤ 2000000) :
    ∃ m', oApp lt d m = some (.ok .non m') ∧ SI m0 (t ++ [d]) b a lt lb m' := by
  have nn := List.nodup_cons.1 s.nd
  have n2 := List.nodup_cons.1 nn.2
  refine ⟨_, oApp_at s.ct (slLt (by omega)), ?_⟩
  constructor
  · rw [get_set_ne (fun e => nn.1 (by rw [← e]; simp))]; exact s.ca
  · exact List.getElem?_set_self (s.lt_len lt (by simp))
  · exact s.len
  · intro i r hi
    obtain ⟨j, h1, h2⟩ := s.cb i r hi
    refine ⟨j, h1, ?_⟩
    rw [get_set_ne (fun e => n2.1 (by rw [e]; exact List.mem_of_getElem? h1))]
    exact h2
  · exact s.nd
  · exact s.lo
  · exact s.keep.set (s.lo lt (by simp)) _
theorem SI.pop {m0 : Mem} {t u : List D} {b : List (List D)} {a lt : Nat} {lb : List Nat} {m : Mem} (s : SI m0 t (u :: b) a lt lb m) :
    ∃ lu lb' m', lb = lu :: lb' ∧ oPop a m = some (.ok (.loc lt) m') ∧ oTuple [.loc lt] m' = some (.tup t) ∧ SI m0 u b a lu lb' m' := by
  have nn := List.nodup_cons.1 s.nd
  obtain ⟨lu, lb', rfl⟩ : ∃ lu lb', lb = lu :: lb' := by
    cases lb with
    | nil => have := s.len; simp at this
    | cons x y => exact ⟨x, y, rfl⟩
  have hc := s.ca
  rw [List.map_append] at hc
  have st : ∀ (c : Cell) (j : Nat), j ≠ a → (m.set a c)[j]? = m[j]? := fun c j hn => get_set_ne (Ne.symm hn)
  have ct : (m.set a (.lst ((lu :: lb').reverse.map D.loc)))[lt]? = some (.lst t) := by
    rw [st _ lt (fun e => nn.1 (by rw [e]; simp))]; exact s.ct
  refine ⟨lu, lb', _, rfl, oPop_at hc, ?_, ?_⟩
  · simp only [oTuple, asL, ct]
  · constructor
    · rw [List.getElem?_set_self (s.lt_len a (by simp))]
      simp
    · obtain ⟨j, h1, h2⟩ := s.cb 0 u rfl
      simp at h1
      subst h1
      rw [st _ _ (fun e => nn.1 (by rw [e]; simp))]; exact h2
    · have := s.len; simpa using this
    · intro i r hi
      obtain ⟨j, h1, h2⟩ := s.cb (i + 1) r (by simpa using hi)
      have h1 : lb'[i]? = some j := by simpa using h1
      refine ⟨j, h1, ?_⟩
      rw [st _ j (fun e => nn.1 (by rw [← e]; simp [List.mem_of_getElem? h1]))]; exact h2
    · have n2 := List.nodup_cons.1 nn.2
      exact List.nodup_cons.2 ⟨fun h => nn.1 (List.mem_cons_of_mem _ h), n2.2⟩
    · intro j hj
      refine s.lo j ?_
      rcases List.mem_cons.1 hj with e | e
      · rw [e]; simp
      · exact List.mem_cons_of_mem _ (List.mem_cons_of_mem _ e)
    · exact s.keep.set (s.lo a (by simp)) _
theorem SI.last {m0 : Mem} {t : List D} {b : List (List D)} {a lt : Nat} {lb : List Nat} {m : Mem} (s : SI m0 t b a lt lb m) : oIx (.loc a) (.int (-1)) m = some (.loc lt) := by
  rw [seqO_ix (l := (lb.reverse ++ [lt]).map D.loc) (by simp only [seqO, asL, s.ca])]
  rw [List.map_append]
  exact atI_last _ _
theorem SI.size {m0 : Mem} {t : List D} {b : List (List D)} {a lt : Nat} {lb : List Nat} {m : Mem} (s : SI m0 t b a lt lb m) : oLen [.loc a] m = some (.int ((b.length + 1 : Nat) : Int)) := by
  rw [seqO_len (l := (lb.reverse ++ [lt]).map D.loc) (by simp only [seqO, asL, s.ca])]
  simp [s.len]
def RvB : PSF := (sSeq (sIf (pTst (pBin oEq (pVar 2) (pC (.str "(")))) (sExpr (pMth oApp (pVar 1) (pLstM pNil))) (sIf (pTst (pBin oEq (pVar 2) (pC (.str ")")))) (sSeq (sIf (pTst (pBin oLt (pCall oLen (pCons (pVar 1) pNil)) (pC (.int 2)))) (sRaise "BadText" (pVar 0)) sNop)
  (sSeq (sSet 3 (pCall oTuple (pCons (pMth0 oPop (pVar 1)) pNil)))
  (sExpr (pMth oApp (pBin oIx (pVar 1) (pUn oNeg (pC (.int 1)))) (pVar 3))))) (sExpr (pMth oApp (pBin oIx (pVar 1) (pUn oNeg (pC (.int 1)))) (pApp F_read_mark 1 (pCons (pVar 2) pNil))))))
  (sIf (pTst (pBin oGt (pCall oLen (pCons (pVar 1) pNil)) (pC C_DEEP))) (sRaise "BadText" (pVar 0)) sNop))
theorem rv_step {m0 : Mem} {t : List D} {b : List (List D)} {a lt : Nat} {lb : List Nat} {m : Mem} (s : SI m0 t b a lt lb m) (k : List Nat) (hk : k.length ≤ 90000) (hb : b.length + 1 ≤ 60) (ht : t.length ≤ 1000000) (hu : ∀ u ∈ b, u.length ≤ 1000000) (x : Str) (z3 : Option D) :
    wpY (RvB [some (.str x), some (.loc a), some (.str (sO k)), z3] m)
      (fun e m' => ∃ st' lt' lb' z3', step (t, b) k = some st' ∧ e = [some (.str x), some (.loc a), some (.str (sO k)), z3'] ∧ SI m0 st'.1 st'.2 a lt' lb' m') (fun _ _ => False)
      (fun c m' => c = "BadText" ∧ step (t, b) k = none ∧ Keep m0 m') := by
  have e1 : (sO k = "(") ↔ k = [40] := by rw [lp_eq, sO_inj]
  have e2 : (sO k = ")") ↔ k = [41] := by rw [rp_eq, sO_inj]
  unfold RvB
  by_cases h1 : k = [40]
  · obtain ⟨m', p1, p2⟩ := s.push (by omega)
    have hz := p2.size
    by_cases h3 : b.length + 2 ≤ 60
    · have hs : step (t, b) k = some ([], t :: b) := by unfold step; rw [if_pos h1, if_pos h3]
      simp [eq_true (e1.2 h1), p1, hz, C_DEEP]
      rw [if_neg (by omega)]
      exact ⟨_, _, hs, _, _, p2⟩
    · have hs : step (t, b) k = none := by unfold step; rw [if_pos h1, if_neg h3]
      simp [eq_true (e1.2 h1), p1, hz, C_DEEP]
      rw [if_pos (by omega)]
      exact ⟨hs, p2.keep⟩
  · have n1 : ¬ sO k = "(" := fun e => h1 (e1.1 e)
    have sz := s.size
    by_cases h2 : k = [41]
    · cases b with
      | nil =>
        have hs : step (t, []) k = none := by unfold step; rw [if_neg h1, if_pos h2]
        simp at sz
        simp [n1, eq_true (e2.2 h2), sz]
        exact ⟨hs, s.keep⟩
      | cons u b =>
        have hs : step (t, u :: b) k = some (u ++ [.tup t], b) := by unfold step; rw [if_neg h1, if_pos h2]
        obtain ⟨lu, lb', m1, rfl, p1, p2, p3⟩ := s.pop
        obtain ⟨m2, q1, q2⟩ := p3.app (.tup t) (by have := hu u (by simp); omega)
        have hl := p3.last
        have hz := q2.size
        have hlt : ¬ ((u :: b).length + 1 : Nat) < (2 : Int) := by simp; omega
        have hgt : ¬ (60 : Int) < ((b.length + 1 : Nat) : Int) := by simp at hb; omega
        simp only [List.length_cons] at sz hlt
        simp [n1, eq_true (e2.2 h2), sz, p1, p2, hl, q1, hz, C_DEEP]
        rw [if_neg (by omega), if_neg (by simp at hb; omega)]
        exact ⟨_, _, hs, _, _, q2⟩
    · have n2 : ¬ sO k = ")" := fun e => h2 (e2.1 e)
      have hr := read_mark_eq k m hk
      have hl := s.last
      cases hm : readMark k with
      | none =>
        have hs : step (t, b) k = none := by unfold step; rw [if_neg h1, if_neg h2, hm]
        rw [hm] at hr
        simp [n1, n2, hl, hr, resM]
        exact ⟨hs, s.keep⟩
      | some d =>
        have hs : step (t, b) k = some (t ++ [d], b) := by unfold step; rw [if_neg h1, if_neg h2, hm]
        rw [hm] at hr
        obtain ⟨m2, q1, q2⟩ := s.app d (by omega)
        have hz := q2.size
        simp [n1, n2, hl, hr, resM, q1, hz, C_DEEP]
        rw [if_neg (by omega)]
        exact ⟨_, _, hs, _, _, q2⟩
theorem wpY_ctn {o : Option SOut} {k : Ev → Mem → Option SOut} {N : Ev → Mem → Prop} {R : D → Mem → Prop} {E : Str → Mem → Prop} (h : wpY o (fun e m => wpY (k e m) N R E) R E) : wpY (ctn o k) N R E := by
  cases o with
  | none => unfold wpY at h; exact h.elim
  | some o =>
    cases o with
    | nx e m => rw [wpY_nx] at h; exact h
    | rt d m => rw [wpY_rt] at h; show wpY (some (SOut.rt _ _)) N R E; rw [wpY_rt]; exact h
    | exc c e m => rw [wpY_exc] at h; show wpY (some (SOut.exc _ _ _)) N R E; rw [wpY_exc]; exact h
    | bk e m => unfold wpY at h; exact h.elim
    | ct e m => unfold wpY at h; exact h.elim
theorem wt_mem_le {b : List (List D)} {u : List D} (h : u ∈ b) : wt u ≤ (b.map fun r => wt r + 3).sum := by
  induction b with
  | nil => cases h
  | cons v b ih =>
    rw [List.map_cons, List.sum_cons]
    rcases List.mem_cons.1 h with rfl | h
    · omega
    · have := ih h; omega
theorem rv_loop {m0 : Mem} {a : Nat} (x : Str) : ∀ (ms : List (List Nat)) (t : List D) (b : List (List D)) (lt : Nat) (lb : List Nat) (m : Mem) (z2 z3 : Option D), SI m0 t b a lt lb m → stV (t, b) → stW (t, b) + mkW ms ≤ 1000000 → (∀ k ∈ ms, k.length ≤ 90000) →
    wpY (loopF (gN 2) RvB (ms.map fun k => D.str (sO k)) [some (.str x), some (.loc a), z2, z3] m)
      (fun e m' => ∃ st' lt' lb' z2' z3', run (t, b) ms = some st' ∧ e = [some (.str x), some (.loc a), z2', z3'] ∧ SI m0 st'.1 st'.2 a lt' lb' m') (fun _ _ => False)
      (fun c m' => c = "BadText" ∧ run (t, b) ms = none ∧ Keep m0 m')
  | [], t, b, lt, lb, m, z2, z3, s, _, _, _ => by
    rw [List.map_nil, loopF_nil, wpY_nx]
    exact ⟨(t, b), lt, lb, z2, z3, rfl, rfl, s⟩
  | k :: ms, t, b, lt, lb, m, z2, z3, s, v, w, hk => by
    have hw : stW (t, b) + (k.length + 3) + mkW ms ≤ 1000000 := by
      simp only [mkW, List.map_cons, List.sum_cons] at w ⊢
      omega
    have hw0 : stW (t, b) = wt t + (b.map fun r => wt r + 3).sum := rfl
    have hb := v.1
    simp only at hb
    have st := rv_step s k (hk k (by simp)) hb (by have := len_wt t; omega) (fun u hu => by have := len_wt u; have := wt_mem_le hu; omega) x z3
    rw [List.map_cons, loopF_cons, gN_app, inG_ok]
    refine wpY_ctn ?_
    refine wpY.mono (show wpY (RvB [some (.str x), some (.loc a), some (.str (sO k)), z3] m) _ _ _ from st) ?_ (fun _ _ h => h.elim) ?_
    · rintro e m1 ⟨st', lt', lb', z3', h1, rfl, s1⟩
      obtain ⟨v1, w1⟩ := step_ok h1 v
      have ih := rv_loop (m0 := m0) (a := a) x ms st'.1 st'.2 lt' lb' m1 (some (.str (sO k))) z3' s1 v1 (by
        have : stW (st'.1, st'.2) = stW st' := rfl
        omega) (fun q hq => hk q (List.mem_cons_of_mem _ hq))
      have hr : run (t, b) (k :: ms) = run st' ms := by rw [run, h1]
      rw [hr]
      exact ih
    · rintro c m1 ⟨rfl, h1, kp⟩
      refine ⟨rfl, ?_, kp⟩
      rw [run, h1]
theorem mkW_le : ∀ ps : List (List Nat), mkW (ps.filter fun p => decide (p ≠ [])) ≤ 4 * (TL.joinL [32] ps).length
  | [] => by simp [mkW]
  | [p] => by
    by_cases hp : p = []
    · subst hp; simp [mkW]
    · rw [List.filter_cons_of_pos (by simpa using hp)]
      have := List.length_pos_iff.2 hp
      simp [mkW, TL.joinL]
      omega
  | p :: q :: r => by
    have ih := mkW_le (q :: r)
    show _ ≤ 4 * (p ++ ([32] ++ TL.joinL [32] (q :: r))).length
    rw [List.length_append, List.length_append]
    by_cases hp : p = []
    · rw [List.filter_cons_of_neg (a := p) (by simpa using hp)]
      omega
    · rw [List.filter_cons_of_pos (a := p) (by simpa using hp)]
      have := List.length_pos_iff.2 hp
      simp only [mkW, List.map_cons, List.sum_cons] at ih ⊢
      omega
theorem mk_mem {ps : List (List Nat)} {p : List Nat} (h : p ∈ ps) : p.length ≤ (TL.joinL [32] ps).length := by
  induction ps with
  | nil => cases h
  | cons q r ih =>
    cases r with
    | nil =>
      rw [List.mem_singleton.1 h]
      exact Nat.le_refl _
    | cons s r =>
      show p.length ≤ (q ++ ([32] ++ TL.joinL [32] (s :: r))).length
      rw [List.length_append, List.length_append]
      rcases List.mem_cons.1 h with e | e
      · rw [e]; omega
      · have := ih e; omega
theorem SI.init (m : Mem) : SI m [] [] (m.length + 1) m.length [] (m ++ [.lst [], .lst [.loc m.length]]) := by
  constructor
  · rw [List.getElem?_append_right (by simp)]; simp
  · rw [List.getElem?_append_right (by simp)]; simp
  · rfl
  · intro i r h; simp at h
  · simp
  · intro j hj; simp at hj; omega
  · intro a c h
    rw [List.getElem?_append_left (List.getElem?_eq_some_iff.1 h).1]; exact h
theorem exp_len (t : List Nat) : (expL t).length ≤ 3 * t.length := flat_len t ex (fun c => by by_cases h1 : c = 40 <;> by_cases h2 : c = 41 <;> simp [ex, h1, h2])
def RvT : PSF := (sSeq (sIf (pOrT (pTst (pBin oNe (pCall oLen (pCons (pVar 1) pNil)) (pC (.int 1)))) (pOrT (pTst (pBin oNe (pCall oLen (pCons (pBin oIx (pVar 1) (pC (.int 0))) pNil)) (pC (.int 1)))) (pTst (pBin oNe (pApp (F_write_value (70)) 1 (pCons (pBin oIx (pBin oIx (pVar 1) (pC (.int 0))) (pC (.int 0))) pNil)) (pVar 0))))) (sRaise "BadText" (pVar 0)) sNop)
  (sRet (pBin oIx (pBin oIx (pVar 1) (pC (.int 0))) (pC (.int 0)))))
theorem rv_tail {x : List Nat} {m : Mem} {t : List D} {b : List (List D)} {a lt : Nat} {lb : List Nat} {mm : Mem} (s : SI m t b a lt lb mm) (hr : run ([], []) (marks x) = some (t, b)) (v : stV (t, b)) (w : stW (t, b) ≤ 1000000) (z2 z3 : Option D) :
    wpY (RvT [some (.str (sO x)), some (.loc a), z2, z3] mm) (fun _ _ => False) (fun d m' => parse x = some d ∧ Vd 60 d ∧ (textL d).length ≤ 1000000 ∧ Keep m m') (fun c m' => c = "BadText" ∧ parse x = none ∧ Keep m m') := by
  have sz := s.size
  unfold RvT
  by_cases hb : b = []
  · subst hb
    have hlb : lb = [] := List.eq_nil_of_length_eq_zero s.len
    subst hlb
    have i0 : oIx (.loc a) (.int 0) mm = some (.loc lt) := by
      rw [seqO_ix (l := ([lt] : List Nat).map D.loc) (by simp only [seqO, asL, s.ca]; rfl)]
      exact atI_0 _ _
    have hl : oLen [.loc lt] mm = some (.int t.length) := seqO_len (by simp only [seqO, asL, s.ct])
    simp at sz
    match t, hr, v, w, s, hl with
    | [], hr, v, w, s, hl =>
      have hp : parse x = none := by unfold parse; rw [hr]
      simp at hl
      simp [sz, i0, hl]
      exact ⟨hp, s.keep⟩
    | [d], hr, v, w, s, hl =>
      have i1 : oIx (.loc lt) (.int 0) mm = some d := by
        rw [seqO_ix (l := [d]) (by simp only [seqO, asL, s.ct])]
        exact atI_0 _ _
      have vd : Vd 59 d := v.2.1 d (by simp)
      have wd : (textL d).length ≤ 1000000 := by
        have : stW ([d], []) = (textL d).length + 1 := by simp [stW, wt]
        omega
      obtain ⟨r, m1, hw, rfl, rfl⟩ := (wF_write 69 d mm (vd.up (by decide)) wd).out
      simp at hl
      by_cases he : textL d = x
      · have hp : parse x = some d := by unfold parse; rw [hr]; exact if_pos he
        simp [sz, i0, hl, i1, hw, oNe_str, he]
        exact ⟨hp, vd.up (by decide), by rw [← he]; exact wd, s.keep⟩
      · have hp : parse x = none := by unfold parse; rw [hr]; exact if_neg he
        simp [sz, i0, hl, i1, hw, oNe_str, sO_inj, he]
        exact ⟨hp, s.keep⟩
    | d :: e :: t, hr, v, w, s, hl =>
      have hp : parse x = none := by unfold parse; rw [hr]
      simp only [List.length_cons] at hl
      have : ¬ ((t.length + 1 + 1 : Nat) : Int) = 1 := by omega
      simp [sz, i0, hl]
      rw [if_neg (by omega)]
      exact ⟨hp, s.keep⟩
  · have hp : parse x = none := by
      unfold parse
      rw [hr]
      cases b with
      | nil => exact absurd rfl hb
      | cons u b =>
        match t with
        | [] => rfl
        | [d] => rfl
        | d :: e :: t => rfl
    have hbl := List.length_pos_iff.2 hb
    simp [sz]
    rw [if_neg (by omega)]
    exact ⟨hp, s.keep⟩
theorem wF_read_value (x : List Nat) (m : Mem) (hx : x.length ≤ 20000) : wpX (F_read_value [.str (sO x)] m) (fun d m' => parse x = some d ∧ Vd 60 d ∧ (textL d).length ≤ 1000000 ∧ Keep m m') (fun c m' => c = "BadText" ∧ parse x = none ∧ Keep m m') := by
  obtain ⟨ps, h0, h32, he⟩ := parts_of 32 (expL x)
  have hex := exp_len x
  have hsg := signs_eq x (m ++ [.lst [], .lst [.loc m.length]]) (by omega) h0 h32 he
  have hmk : marks x = ps.filter fun p => decide (p ≠ []) := by unfold marks; rw [he]; exact words_join ps h32
  have hlc := wp_lc (T := .n 2) (t := pTst (pBin oNe (pVar 2) (pC (.str "")))) (p := pVar 2) (e := [some (.str (sO x)), some (.loc (m.length + 1)), none, none]) (fun m1 => m1 = m ++ [.lst [], .lst [.loc m.length]]) (fun d => match d with
    | .str z => decide (z.cps.toList ≠ [])
    | _ => false) (fun d => d) ((ps.map sO).map D.str) (m ++ [.lst [], .lst [.loc m.length]]) (by
    intro d hd m1 hm
    obtain ⟨z, hz, rfl⟩ := List.mem_map.1 hd
    obtain ⟨p, hp, rfl⟩ := List.mem_map.1 hz
    subst hm
    refine ⟨_, rfl, ?_⟩
    by_cases hp0 : p = []
    · simp [oNe_str, sO_nil, tl_sO, hp0]
    · simp [oNe_str, sO_nil, tl_sO, hp0]) rfl
  have hfil : (((ps.map sO).map D.str).filter fun d => match d with
    | .str z => decide (z.cps.toList ≠ [])
    | _ => false).map (fun d => d) = (marks x).map fun k => D.str (sO k) := by
    rw [List.map_id', hmk, List.map_map, List.filter_map]
    rfl
  rw [hfil] at hlc
  have hpl : ((ps.map sO).map D.str).length ≤ SL := slLe (by
    rw [List.length_map, List.length_map]
    have : ps.length ≤ (TL.joinL [32] ps).length + 1 := by
      clear hlc hfil hmk hsg he h32
      induction ps with
      | nil => exact absurd rfl h0
      | cons q r ih =>
        cases r with
        | nil => simp
        | cons s r =>
          have := ih (by simp)
          show _ ≤ (q ++ ([32] ++ TL.joinL [32] (s :: r))).length + 1
          rw [List.length_append, List.length_append, List.length_cons, List.length_singleton]
          omega
    rw [← he] at this
    omega)
  refine wp_fnX ?_
  show wpY ((sSeq (sSet 1 (pLstM (pCons (pLstM pNil) pNil)))
  (sSeq (sFor (iSeq (pLc [2] (iSeq (pApp F_signs_of 1 (pCons (pVar 0) pNil))) (.n 2) (pTst (pBin oNe (pVar 2) (pC (.str "")))) (pVar 2))) (gN 2) RvB)
  RvT)) (startE 4 [.str (sO x)]) m) _ _ _
  obtain ⟨ys, m1, hlc, rfl, rfl⟩ := hlc.out
  simp only [List.map_map] at hsg hlc hpl
  simp [startE, pLc, pLcG_app, hsg, hlc, finL, finF]
  rw [if_pos (by simpa using hpl)]
  have v0 : stV ([], []) := ⟨by simp, by simp, by simp⟩
  have w0 : stW ([], []) = 0 := rfl
  have hmw : mkW (marks x) ≤ 240000 := by
    rw [hmk]
    have := mkW_le ps
    rw [← he] at this
    omega
  refine wpY.mono (rv_loop (m0 := m) (a := m.length + 1) (sO x) (marks x) [] [] m.length [] (m ++ [.lst [], .lst [.loc m.length]]) none none (SI.init m) v0 (by rw [w0]; omega) (fun k hk => ?_)) ?_ (fun _ _ h => h.elim) ?_
  · rw [hmk] at hk
    have := mk_mem (List.mem_filter.1 hk).1
    rw [← he] at this
    omega
  · rintro e m1 ⟨st', lt', lb', z2', z3', h1, rfl, s1⟩
    obtain ⟨v1, w1⟩ := run_ok h1 v0
    exact (rv_tail s1 h1 v1 (by rw [w0] at w1; have : stW (st'.1, st'.2) = stW st' := rfl; omega) z2' z3').mono (fun _ _ h => h.elim) (fun _ _ h => h) (fun _ _ h => h)
  · rintro c m1 ⟨rfl, h1, kp⟩
    refine ⟨rfl, ?_, kp⟩
    unfold parse
    rw [h1]
end Z

set_option maxRecDepth 100000
set_option maxHeartbeats 2000000
set_option autoImplicit false
namespace Z
open PySem PySem.Spec PyProof.Rows L2
open NumText
def pairT (p : D × D) : D := .tup [p.1, p.2]
def lineOk (p : D × D) : Bool := statementD p.1 && reasonD p.2
theorem vd_ok : ∀ {n L : Nat} {d : D}, Vd n d → (∀ c ∈ textL d, c < 1000) → (textL d).length ≤ L → Ok Ab (L + 1) n d
  | 0, L, .tup l, h, _, _ => h.elim
  | n + 1, L, .tup l, h, hc, hl => by
    have hw := wt_tup l
    refine ⟨by have := len_wt l; omega, fun d hd => vd_ok (h d hd) (fun c hm => hc c ?_) (by have := mem_wt hd; omega)⟩
    show c ∈ textL (.tup l)
    simp only [textL, List.mem_cons, List.mem_append]
    refine .inr (.inl ?_)
    clear hw hl hc h
    induction l with
    | nil => cases hd
    | cons e l ih =>
      cases l with
      | nil =>
        have : d = e := by simpa using hd
        subst this
        exact hm
      | cons e2 l2 =>
        rw [textLs]
        rcases List.mem_cons.1 hd with rfl | hd
        · exact List.mem_append_left _ hm
        · exact List.mem_append_right _ (List.mem_cons_of_mem _ (ih hd))
  | 0, L, .non, _, _, _ => trivial
  | n + 1, L, .non, _, _, _ => trivial
  | 0, L, .int i, h, _, _ => pow60' h
  | n + 1, L, .int i, h, _, _ => pow60' h
  | 0, L, .str s, h, hc, _ => str_ok hc
  | n + 1, L, .str s, h, hc, _ => str_ok hc
  | 0, L, .bl _, h, _, _ => h.elim
  | n + 1, L, .bl _, h, _, _ => h.elim
  | 0, L, .lst _, h, _, _ => h.elim
  | n + 1, L, .lst _, h, _, _ => h.elim
  | 0, L, .ro _, h, _, _ => h.elim
  | n + 1, L, .ro _, h, _, _ => h.elim
  | 0, L, .loc _, h, _, _ => h.elim
  | n + 1, L, .loc _, h, _, _ => h.elim
where
  pow60' {i : Int} (h : i.natAbs < 10 ^ 60) : i.natAbs < 2 ^ 2000 := Nat.lt_of_lt_of_le (pow60 h) (Nat.pow_le_pow_right (by decide) (by decide))
  str_ok {s : Str} (hc : ∀ c ∈ textL (.str s), c < 1000) : PyData.strOk s = true := by
    unfold PyData.strOk
    rw [← Array.all_toList, List.all_eq_true]
    intro c h
    have : c < 1000 := hc c h
    simp
    omega
theorem wF_is_proofP {L : Nat} (hL : L ≤ 1000) : ∀ (rs : List (D × D)) (m : Mem), (∀ p ∈ rs, Ok Ab L 60 p.1 ∧ Ok Ab L 60 p.2) → wpE (F_is_proof [.tup (rs.map pairT)] m) fun r m1 => r = .bl (rs.all lineOk) ∧ m1 = m := by
  intro rs m h
  refine wp_fn ?_
  have key : ∀ (rs : List (D × D)) (d : D) (z : Option D) (b : Bool), rs.all lineOk = b → (∀ p ∈ rs, Ok Ab L 60 p.1 ∧ Ok Ab L 60 p.2) → wpS (loopF (gN 1) (sIf (pOrT (pNotT (pTru (pUn (oIsi "tuple") (pVar 1)))) (pOrT (pTst (pBin oNe (pCall oLen (pCons (pVar 1) pNil)) (pC (.int 2)))) (pOrT (pNotT (pTru (pApp F_is_statement 1 (pCons (pBin oIx (pVar 1) (pC (.int 0))) pNil)))) (pNotT (pTru (pApp F_is_reason 1 (pCons (pBin oIx (pVar 1) (pC (.int 1))) pNil))))))) (sRet (pC (.bl false))) sNop) (rs.map pairT) [some d, z] m) (fun e m1 => b = true ∧ m1 = m) (fun r m1 => r = .bl b ∧ m1 = m) := by
    intro rs
    induction rs with
    | nil => intro d z b hb _; rw [List.map_nil, loopF_nil, wpS_nx]; exact ⟨hb.symm, rfl⟩
    | cons p rs ih =>
      intro d z b hb h
      obtain ⟨s, r⟩ := p
      obtain ⟨hs, hr⟩ := h _ (List.mem_cons_self ..)
      have ih' := fun d z b hb => ih d z b hb fun p hp => h p (List.mem_cons_of_mem _ hp)
      obtain ⟨_, m1, e1, rfl, rfl⟩ := (wF_is_statement s m hs (by decide) hL).out
      obtain ⟨_, m2, e2, rfl, rfl⟩ := (wF_is_reason r m1 (hr.mono (fun _ h => Ab.at h) (Nat.le_refl _) (Nat.le_refl _)) (by decide) hL).out
      rw [List.map_cons]
      rw [List.all_cons] at hb
      simp [loopF_cons, pairT, atI_0, atI_1]
      by_cases h1 : statementD s = true
      · by_cases h2 : reasonD r = true
        · have hl : lineOk (s, r) = true := by simp [lineOk, h1, h2]
          rw [hl, Bool.true_and] at hb
          have ih2 := ih' d (some (.tup [s, r])) b hb
          simp [e1, e2, h1, h2]
          exact ih2
        · have h2 : reasonD r = false := by simpa using h2
          have hl : lineOk (s, r) = false := by simp [lineOk, h2]
          rw [hl, Bool.false_and] at hb
          simp [e1, e2, h1, h2, ← hb]
      · have h1 : statementD s = false := by simpa using h1
        have hl : lineOk (s, r) = false := by simp [lineOk, h1]
        rw [hl, Bool.false_and] at hb
        simp [e1, h1, ← hb]
  have k := key rs (.tup (rs.map pairT)) none _ rfl h
  generalize rs.all lineOk = b at k ⊢
  simp [B_is_proof, startE]
  refine k.mono ?_ (fun _ _ h => h)
  rintro e m1 ⟨h1, rfl⟩
  exact ⟨by rw [h1], rfl⟩
end Z

set_option maxRecDepth 100000
set_option maxHeartbeats 2000000
set_option autoImplicit false
namespace Z
open PySem PySem.Spec PyProof.Rows L2
open NumText
def byL : List Nat := [32, 98, 121, 32]
def lineT (p : D × D) : List Nat := textL p.1 ++ (byL ++ textL p.2)
noncomputable def readLine (l : List Nat) : Option (D × D) := match TL.par byL [] l with
  | none => none
  | some (a, b) => match parse a with
    | none => none
    | some x => match parse b with
      | none => none
      | some y => some (x, y)
noncomputable def readLines : List (List Nat) → Option (List (D × D))
  | [] => some []
  | l :: r => match readLine l with
    | none => none
    | some p => match readLines r with
      | none => none
      | some ps => some (p :: ps)
theorem by_eq : (" by " : Str) = sO byL := rfl
theorem sO_len0 (l : List Nat) : (sO l = "") ↔ l = [] := sO_nil l
theorem app_len (x y : Str) : (x ++ y).length = x.length + y.length := by rw [TL.len_tl, TL.len_tl x, TL.len_tl y, TL.tl_append, List.length_append]
theorem par_len {a p q : List Nat} (h : TL.par byL [] a = some (p, q)) : p.length ≤ a.length ∧ q.length ≤ a.length := by
  have e := SX.partition_some (a := a) (b := byL) (by decide) h
  have := StrLaws.partition_sum (SX.S a) (SX.S byL)
  rw [e] at this
  simp only at this
  have h2 := congrArg Str.length this
  rw [app_len, app_len, SX.S_len p, SX.S_len q, SX.S_len a] at h2
  omega
theorem par_text {a p q : List Nat} (h : TL.par byL [] a = some (p, q)) : a = p ++ (byL ++ q) := by
  have e := SX.partition_some (a := a) (b := byL) (by decide) h
  have := StrLaws.partition_sum (SX.S a) (SX.S byL)
  rw [e] at this
  simp only at this
  have h2 : sO (p ++ byL ++ q) = sO a := by rw [← sO_app, ← sO_app]; exact this
  rw [← sO_inj.1 h2, List.append_assoc]
def RpB : PSF := (sSeq (sAsg (gTp 3 (gsCons (gN 4) (gsCons (gN 5) (gsCons (gN 6) gsNil)))) (pM1 oPart (pVar 3) (pC (.str " by "))))
  (sSeq (sIf (pTst (pBin oEq (pVar 5) (pC (.str "")))) (sRaise "BadText" (pVar 3)) sNop)
  (sExpr (pMth oApp (pVar 2) (pTup (pCons (pApp F_read_value 1 (pCons (pVar 4) pNil)) (pCons (pApp F_read_value 1 (pCons (pVar 6) pNil)) pNil)))))))
theorem oPart_some {a p q : List Nat} (h : TL.par byL [] a = some (p, q)) (ha : a.length ≤ 20000) (m : Mem) : oPart (.str (sO a)) (.str " by ") m = some (.tup [.str (sO p), .str (sO byL), .str (sO q)]) := by
  have e : Txt.partition (sO a) " by " = (sO p, sO byL, sO q) := SX.partition_some (a := a) (b := byL) (by decide) h
  show (if _ then _ else _) = _
  rw [if_pos ⟨by decide, slLe (by rw [sO_len]; omega)⟩, e]
theorem oPart_none {a : List Nat} (h : TL.par byL [] a = none) (ha : a.length ≤ 20000) (m : Mem) : oPart (.str (sO a)) (.str " by ") m = some (.tup [.str (sO a), .str (sO []), .str (sO [])]) := by
  have e : Txt.partition (sO a) " by " = (sO a, sO [], sO []) := SX.partition_none (a := a) (b := byL) (by decide) h
  show (if _ then _ else _) = _
  rw [if_pos ⟨by decide, slLe (by rw [sO_len]; omega)⟩, e]
def vdP (p : D × D) : Prop := Vd 60 p.1 ∧ Vd 60 p.2
theorem rp_step {m0 : Mem} {i : Nat} (hi : m0.length ≤ i) (x ls : D) (r : List Nat) (done : List (D × D)) (m : Mem) (z4 z5 z6 : Option D) (hk : Keep m0 m) (hm : m[i]? = some (.lst (done.map pairT))) (hr : r.length ≤ 20000) (hd : done.length ≤ 10000) :
    wpY (RpB [some x, some ls, some (.loc i), some (.str (sO r)), z4, z5, z6] m)
      (fun e m' => ∃ p z4 z5 z6, readLine r = some p ∧ vdP p ∧ e = [some x, some ls, some (.loc i), some (.str (sO r)), z4, z5, z6] ∧ Keep m0 m' ∧ m'[i]? = some (.lst ((done ++ [p]).map pairT))) (fun _ _ => False)
      (fun c m' => c = "BadText" ∧ readLine r = none ∧ Keep m0 m') := by
  unfold RpB
  cases hp : TL.par byL [] r with
  | none =>
    have h1 := oPart_none hp hr m
    simp [h1, sO_len0]
    exact ⟨by unfold readLine; rw [hp], hk⟩
  | some pq =>
    obtain ⟨p, q⟩ := pq
    have h1 := oPart_some hp hr m
    have hb : ¬ sO byL = "" := by decide
    obtain ⟨l1, l2⟩ := par_len hp
    simp [h1, hb]
    refine (wF_read_value p m (by omega)).mono ?_ ?_
    · rintro d m1 ⟨h2, h3, _, k1⟩
      refine (wF_read_value q m1 (by omega)).mono ?_ ?_
      · rintro d2 m2 ⟨h4, h5, _, k2⟩
        have hm2 : m2[i]? = some (.lst (done.map pairT)) := k2 _ _ (k1 _ _ hm)
        have hap := oApp_at (b := .tup [d, d2]) hm2 (slLt (by simp; omega))
        simp [hap]
        refine ⟨d, d2, ?_, ⟨h3, h5⟩, ((hk.trans k1).trans k2).set hi _, ?_⟩
        · unfold readLine; rw [hp]; simp only; rw [h2]; simp only; rw [h4]
        · rw [set_at hm2]; simp [pairT]
      · rintro c m2 ⟨rfl, h4, k2⟩
        refine ⟨rfl, ?_, (hk.trans k1).trans k2⟩
        unfold readLine; rw [hp]; simp only; rw [h2]; simp only; rw [h4]
    · rintro c m1 ⟨rfl, h2, k1⟩
      refine ⟨rfl, ?_, hk.trans k1⟩
      unfold readLine; rw [hp]; simp only; rw [h2]
theorem rp_loop {m0 : Mem} {i : Nat} (hi : m0.length ≤ i) (x ls : D) : ∀ (rows : List (List Nat)) (done : List (D × D)) (m : Mem) (z3 z4 z5 z6 : Option D), Keep m0 m → m[i]? = some (.lst (done.map pairT)) → (∀ r ∈ rows, r.length ≤ 20000) → done.length + rows.length ≤ 10000 →
    wpY (loopF (gN 3) RpB (rows.map fun r => D.str (sO r)) [some x, some ls, some (.loc i), z3, z4, z5, z6] m)
      (fun e m' => ∃ rs z3 z4 z5 z6, readLines rows = some rs ∧ (∀ p ∈ rs, vdP p) ∧ e = [some x, some ls, some (.loc i), z3, z4, z5, z6] ∧ Keep m0 m' ∧ m'[i]? = some (.lst ((done ++ rs).map pairT))) (fun _ _ => False)
      (fun c m' => c = "BadText" ∧ readLines rows = none ∧ Keep m0 m')
  | [], done, m, z3, z4, z5, z6, hk, hm, _, _ => by
    rw [List.map_nil, loopF_nil, wpY_nx]
    exact ⟨[], z3, z4, z5, z6, rfl, (fun p hp => (List.not_mem_nil hp).elim), rfl, hk, by rw [List.append_nil]; exact hm⟩
  | r :: rows, done, m, z3, z4, z5, z6, hk, hm, hr, hd => by
    rw [List.length_cons] at hd
    rw [List.map_cons, loopF_cons, gN_app, inG_ok]
    refine wpY_ctn ?_
    refine wpY.mono (show wpY (RpB [some x, some ls, some (.loc i), some (.str (sO r)), z4, z5, z6] m) _ _ _ from rp_step hi x ls r done m z4 z5 z6 hk hm (hr r (by simp)) (by omega)) ?_ (fun _ _ h => h.elim) ?_
    · rintro e m1 ⟨p, y4, y5, y6, h1, hv, rfl, k1, hm1⟩
      refine wpY.mono (rp_loop hi x ls rows (done ++ [p]) m1 (some (.str (sO r))) y4 y5 y6 k1 hm1 (fun q hq => hr q (List.mem_cons_of_mem _ hq)) (by simp; omega)) ?_ (fun _ _ h => h) ?_
      · rintro e m2 ⟨rs, w3, w4, w5, w6, h2, hv2, rfl, k2, hm2⟩
        refine ⟨p :: rs, w3, w4, w5, w6, ?_, ?_, rfl, k2, ?_⟩
        · rw [readLines, h1]; simp only; rw [h2]
        · intro q hq
          rcases List.mem_cons.1 hq with rfl | hq
          · exact hv
          · exact hv2 q hq
        · rw [hm2, List.append_assoc]; rfl
      · rintro c m2 ⟨rfl, h2, k2⟩
        refine ⟨rfl, ?_, k2⟩
        rw [readLines, h1]; simp only; rw [h2]
    · rintro c m1 ⟨rfl, h1, k1⟩
      refine ⟨rfl, ?_, k1⟩
      rw [readLines, h1]
theorem cutD_init (l : List D) : cutD l none (some (-1)) = l.dropLast := by
  unfold cutD
  have h1 : HT.sIx l.length 0 none = 0 := rfl
  have h2 : HT.sIx l.length l.length (some (-1)) = l.length - 1 := by
    show (if (-1 : Int) < 0 then (-1 + (l.length : Int)).toNat else min (-1 : Int).toNat l.length) = _
    rw [if_pos (by decide)]
    omega
  rw [h1, h2, List.drop_zero, Nat.sub_zero, List.dropLast_eq_take]
end Z

set_option maxRecDepth 100000
set_option maxHeartbeats 2000000
set_option autoImplicit false
namespace Z
open PySem PySem.Spec PyProof.Rows L2
open NumText
theorem parse_inv {t : List Nat} {d : D} (h : parse t = some d) : textL d = t := by
  unfold parse at h
  split at h
  · split at h
    · cases h; assumption
    · cases h
  · cases h
theorem readLine_text {l : List Nat} {p : D × D} (h : readLine l = some p) : l = lineT p := by
  unfold readLine at h
  split at h
  · cases h
  · rename_i a b hp
    split at h
    · cases h
    · rename_i x hx
      split at h
      · cases h
      · rename_i y hy
        cases h
        rw [par_text hp]
        unfold lineT
        rw [parse_inv hx, parse_inv hy]
theorem readLines_text : ∀ {rows : List (List Nat)} {rs : List (D × D)}, readLines rows = some rs → rows = rs.map lineT
  | [], rs, h => by cases h; rfl
  | l :: r, rs, h => by
    rw [readLines] at h
    split at h
    · cases h
    · rename_i p hp
      split at h
      · cases h
      · rename_i ps hps
        cases h
        rw [List.map_cons, ← readLine_text hp, ← readLines_text hps]
noncomputable def readP (rows : List (List Nat)) (last : List Nat) : Option (List (D × D)) := if last = [] then (match readLines rows with
  | none => none
  | some rs => if rs.all lineOk = true then some rs else none) else none
theorem mem_join (s : Nat) : ∀ {ps : List (List Nat)} {p : List Nat}, p ∈ ps → (∀ c ∈ p, c ∈ TL.joinL [s] ps) ∧ p.length ≤ (TL.joinL [s] ps).length
  | [q], p, h => by
    obtain rfl := List.mem_singleton.1 h
    exact ⟨fun c hc => hc, Nat.le_refl _⟩
  | q :: r :: t, p, h => by
    have e : TL.joinL [s] (q :: r :: t) = q ++ (s :: TL.joinL [s] (r :: t)) := rfl
    rw [e]
    rcases List.mem_cons.1 h with rfl | h
    · exact ⟨fun c hc => List.mem_append_left _ hc, by simp⟩
    · have := mem_join s h
      refine ⟨fun c hc => List.mem_append_right _ (List.mem_cons_of_mem _ (this.1 c hc)), ?_⟩
      have := this.2
      simp
      omega
theorem line_parts {p : D × D} : (∀ c ∈ textL p.1, c ∈ lineT p) ∧ (∀ c ∈ textL p.2, c ∈ lineT p) ∧ (textL p.1).length ≤ (lineT p).length ∧ (textL p.2).length ≤ (lineT p).length := by
  unfold lineT
  refine ⟨fun c h => List.mem_append_left _ h, fun c h => List.mem_append_right _ (List.mem_append_right _ h), by simp, ?_⟩
  simp
  omega
theorem rows_ok {rows : List (List Nat)} {rs : List (D × D)} (h : readLines rows = some rs) (hv : ∀ p ∈ rs, vdP p) (hr : ∀ r ∈ rows, r.length ≤ 990 ∧ ∀ c ∈ r, c < 1000) : ∀ p ∈ rs, Ok Ab 991 60 p.1 ∧ Ok Ab 991 60 p.2 := fun p hp => by
  have e := readLines_text h
  have hm : lineT p ∈ rows := by rw [e]; exact List.mem_map_of_mem hp
  obtain ⟨l1, l2⟩ := hr _ hm
  obtain ⟨c1, c2, n1, n2⟩ := line_parts (p := p)
  exact ⟨vd_ok (hv p hp).1 (fun c hc => l2 c (c1 c hc)) (by omega), vd_ok (hv p hp).2 (fun c hc => l2 c (c2 c hc)) (by omega)⟩
theorem wF_read_proof (rows : List (List Nat)) (last : List Nat) (m : Mem) (h10 : ∀ p ∈ rows ++ [last], 10 ∉ p) (hl : (TL.joinL [10] (rows ++ [last])).length ≤ 990) (hc : ∀ c ∈ TL.joinL [10] (rows ++ [last]), c < 1000) (hn : rows.length ≤ 1000) :
    wpX (F_read_proof [.str (sO (TL.joinL [10] (rows ++ [last])))] m) (fun d m' => Keep m m' ∧ ∃ rs, readP rows last = some rs ∧ d = .tup (rs.map pairT) ∧ ∀ p ∈ rs, vdP p ∧ Ok Ab 991 60 p.1 ∧ Ok Ab 991 60 p.2) (fun c m' => (c = "BadText" ∨ c = "NotAProof") ∧ readP rows last = none ∧ Keep m m') := by
  have hs := splitO (s := 10) (by decide) (ps := rows ++ [last]) (by simp) h10
  have hrow : ∀ r ∈ rows, r.length ≤ 990 ∧ ∀ c ∈ r, c < 1000 := fun r hr => by
    have := mem_join 10 (ps := rows ++ [last]) (List.mem_append_left _ hr)
    exact ⟨by omega, fun c h => hc c (this.1 c h)⟩
  generalize TL.joinL [10] (rows ++ [last]) = t at hs hl hc
  have hsp : oSplit (.str (sO t)) (.str "\n") m = some (.lst (((rows ++ [last]).map sO).map D.str)) := by
    show (if _ then _ else none) = _
    rw [if_pos ⟨by decide, slLe (by rw [sO_len]; omega)⟩, show ("\n" : Str) = sO [10] from rfl, hs]
  have hlast : atI (((rows ++ [last]).map sO).map D.str) (-1) = some (.str (sO last)) := by
    rw [List.map_append, List.map_append]
    exact atI_last _ _
  have hcut : cutD (((rows ++ [last]).map sO).map D.str) none (some (-1)) = rows.map fun r => D.str (sO r) := by
    rw [cutD_init, List.map_append, List.map_append, List.map_map]
    simp
  have hrl : (rows.map fun r => D.str (sO r)).length ≤ SL := slLe (by simp; omega)
  refine wp_fnX ?_
  unfold readP
  simp [B_read_proof, startE, hsp, oNeg, hlast, sO_len0, oNe_str, -List.map_append, -List.map_map]
  by_cases h0 : last = []
  · subst h0
    simp [hcut, -List.map_append, -List.map_map, pPart, pNoPart]
    have st := rp_loop (m0 := m) (i := m.length) (Nat.le_refl _) (.str (sO t)) (.lst (((rows ++ [[]]).map sO).map D.str)) rows [] (m ++ [.lst []]) none none none none (Keep.push m _) (by simp) (fun r hr => by have := (hrow r hr).1; omega) (by simp; omega)
    unfold RpB at st
    refine wpY.mono st ?_ (fun _ _ h => h.elim) ?_
    · rintro e m1 ⟨rs, z3, z4, z5, z6, h1, hv, rfl, k1, hm⟩
      have hm : m1[m.length]? = some (.lst (rs.map pairT)) := hm
      have ht : oTuple [.loc m.length] m1 = some (.tup (rs.map pairT)) := by
        have hL : asL m1 (.loc m.length) = some (rs.map pairT) := by simp only [asL, hm]
        show (match asL m1 (.loc m.length) with
          | some l => some (D.tup l)
          | none => none) = _
        rw [hL]
      obtain ⟨_, m2, e2, rfl, rfl⟩ := (wF_is_proofP (L := 991) (by decide) rs m1 (rows_ok h1 hv hrow)).out
      rw [h1]
      simp only
      by_cases hb : rs.all lineOk = true
      · rw [if_pos hb]
        rw [hb] at e2
        have hr := rows_ok h1 hv hrow
        simp [ht, e2, k1]
        exact fun a b h => ⟨hv _ h, hr _ h⟩
      · rw [if_neg hb]
        have hb : rs.all lineOk = false := by simpa using hb
        rw [hb] at e2
        simp [ht, e2, k1]
    · rintro c m1 ⟨rfl, h1, k1⟩
      rw [h1]
      exact ⟨.inl rfl, rfl, k1⟩
  · simp [h0]
    exact Keep.refl m
end Z

set_option maxRecDepth 100000
set_option maxHeartbeats 2000000
set_option autoImplicit false
namespace Z
open PySem PySem.Spec PyProof.Rows L2
open NumText
/-! texts that are read back: no word begins with b -/
def Gw : Nat → D → Prop
  | _, .non => True
  | _, .int i => i.natAbs < 10 ^ 60
  | _, .str s => s.cps.toList ≠ [] ∧ s.cps.toList.all letB = true ∧ s.cps.toList.head? ≠ some 98
  | 0, .tup _ => False
  | n + 1, .tup l => ∀ d ∈ l, Gw n d
  | _, _ => False
theorem gw_gv : ∀ {n : Nat} {d : D}, Gw n d → Gv n d
  | 0, .tup l, h => h.elim
  | n + 1, .tup l, h => fun d hd => gw_gv (h d hd)
  | 0, .non, _ => trivial
  | n + 1, .non, _ => trivial
  | 0, .int i, h => h
  | n + 1, .int i, h => h
  | 0, .str s, h => ⟨h.1, h.2.1⟩
  | n + 1, .str s, h => ⟨h.1, h.2.1⟩
  | 0, .bl _, h => h.elim
  | n + 1, .bl _, h => h.elim
  | 0, .lst _, h => h.elim
  | n + 1, .lst l, h => h.elim
  | 0, .ro _, h => h.elim
  | n + 1, .ro _, h => h.elim
  | 0, .loc _, h => h.elim
  | n + 1, .loc _, h => h.elim
/-- behind each blank stands a sign, and no b -/
def NB (l : List Nat) : Prop := ∀ i, l[i]? = some 32 → ∃ c, l[i + 1]? = some c ∧ c ≠ 98
theorem NB.no {l : List Nat} (h : 32 ∉ l) : NB l := fun i hi => absurd (List.mem_of_getElem? hi) h
theorem NB.app {a b : List Nat} (ha : NB a) (hb : NB b) : NB (a ++ b) := fun i hi => by
  rcases Nat.lt_or_ge i a.length with h | h
  · rw [List.getElem?_append_left h] at hi
    obtain ⟨c, h1, h2⟩ := ha i hi
    have h3 := (List.getElem?_eq_some_iff.1 h1).1
    exact ⟨c, by rw [List.getElem?_append_left h3]; exact h1, h2⟩
  · rw [List.getElem?_append_right h] at hi
    obtain ⟨c, h1, h2⟩ := hb _ hi
    exact ⟨c, by rw [List.getElem?_append_right (by omega), show i + 1 - a.length = i - a.length + 1 by omega]; exact h1, h2⟩
theorem NB.blank {b : List Nat} {c : Nat} (hb : NB b) (h : b.head? = some c) (hc : c ≠ 98) : NB (32 :: b) := fun i hi => by
  cases i with
  | zero => exact ⟨c, by rw [List.getElem?_cons_succ]; rw [← List.head?_eq_getElem?]; exact h, hc⟩
  | succ i =>
    rw [List.getElem?_cons_succ] at hi
    obtain ⟨c, h1, h2⟩ := hb i hi
    exact ⟨c, by rw [List.getElem?_cons_succ]; exact h1, h2⟩
def tok (l : List Nat) : Prop := NB l ∧ 10 ∉ l ∧ (∃ c, l.head? = some c ∧ c ≠ 98) ∧ ∀ c ∈ l, c < 1000
theorem tok_plain {l : List Nat} (h0 : l ≠ []) (h : ∀ c ∈ l, c ≠ 32 ∧ c ≠ 10 ∧ c < 1000) (hb : l.head? ≠ some 98) : tok l := by
  refine ⟨NB.no fun hm => (h _ hm).1 rfl, fun hm => (h _ hm).2.1 rfl, ?_, fun c hc => (h c hc).2.2⟩
  cases l with
  | nil => exact absurd rfl h0
  | cons c r => exact ⟨c, rfl, fun e => hb (by rw [e]; rfl)⟩
theorem int_plain (i : Int) : tok (intL i) := tok_plain (int_ne i) (fun c hc => by rcases int_signs i c hc with h | h <;> omega) (fun e => by
  have := int_signs i 98 (List.mem_of_head? e)
  omega)
theorem toks_ok : ∀ (l : List D), (∀ d ∈ l, tok (textL d)) → NB (textLs l) ∧ 10 ∉ textLs l ∧ (l ≠ [] → ∃ c, (textLs l).head? = some c ∧ c ≠ 98) ∧ ∀ c ∈ textLs l, c < 1000
  | [], _ => ⟨NB.no (by simp [textLs]), by simp [textLs], fun h => absurd rfl h, by simp [textLs]⟩
  | [d], h => by
    have := h d (by simp)
    rw [textLs]
    exact ⟨this.1, this.2.1, fun _ => this.2.2.1, this.2.2.2⟩
  | d :: e :: l, h => by
    have h1 := h d (by simp)
    obtain ⟨a1, a2, a3, a4⟩ := toks_ok (e :: l) fun x hx => h x (List.mem_cons_of_mem _ hx)
    obtain ⟨c, hc, hne⟩ := a3 (by simp)
    rw [textLs]
    refine ⟨h1.1.app (a1.blank hc hne), ?_, fun _ => ?_, fun c hc => ?_⟩
    · simp only [List.mem_append, List.mem_cons, not_or]
      exact ⟨h1.2.1, by decide, a2⟩
    · obtain ⟨c, h2, h3⟩ := h1.2.2.1
      exact ⟨c, by rw [List.head?_append, h2]; rfl, h3⟩
    · rcases List.mem_append.1 hc with h | h
      · exact h1.2.2.2 c h
      · rcases List.mem_cons.1 h with rfl | h
        · decide
        · exact a4 c h
theorem gw_tok : ∀ {n : Nat} {d : D}, Gw n d → tok (textL d)
  | 0, .tup l, h => h.elim
  | n + 1, .tup l, h => by
    obtain ⟨a1, a2, _, a4⟩ := toks_ok l fun d hd => gw_tok (h d hd)
    rw [textL]
    refine ⟨NB.app (a := [40]) (NB.no (by decide)) (NB.app a1 (NB.no (by decide))), ?_, ⟨40, rfl, by decide⟩, fun c hc => ?_⟩
    · simp only [List.mem_append, List.mem_cons, not_or]
      exact ⟨by decide, a2, by simp⟩
    · rcases List.mem_cons.1 hc with rfl | hc
      · decide
      · rcases List.mem_append.1 hc with h | h
        · exact a4 c h
        · rw [List.mem_singleton.1 h]; decide
  | 0, .non, _ => tok_plain (l := [46]) (by simp) (by decide) (by decide)
  | n + 1, .non, _ => tok_plain (l := [46]) (by simp) (by decide) (by decide)
  | 0, .int i, h => int_plain i
  | n + 1, .int i, h => int_plain i
  | 0, .str s, h => tok_plain (l := s.cps.toList) h.1 (fun c hc => by
      have := List.all_eq_true.1 h.2.1 c hc
      simp [letB] at this
      omega) h.2.2
  | n + 1, .str s, h => tok_plain (l := s.cps.toList) h.1 (fun c hc => by
      have := List.all_eq_true.1 h.2.1 c hc
      simp [letB] at this
      omega) h.2.2
  | 0, .bl _, h => h.elim
  | n + 1, .bl _, h => h.elim
  | 0, .lst _, h => h.elim
  | n + 1, .lst l, h => h.elim
  | 0, .ro _, h => h.elim
  | n + 1, .ro _, h => h.elim
  | 0, .loc _, h => h.elim
  | n + 1, .loc _, h => h.elim
theorem par_line {p q : List Nat} (h : NB p) : TL.par byL [] (p ++ (byL ++ q)) = some (p, q) := by
  refine TL.par_part (by decide) fun i hi => ?_
  cases hp : TL.pre byL ((p ++ (byL ++ q)).drop i) with
  | false => rfl
  | true =>
    exfalso
    unfold TL.pre at hp
    have hp := eq_of_beq hp
    have g : ∀ k, k < 4 → (p ++ (byL ++ q))[i + k]? = byL[k]? := fun k hk => by
      have e : (List.take byL.length (List.drop i (p ++ (byL ++ q))))[k]? = byL[k]? := by rw [hp]
      rwa [List.getElem?_take_of_lt (show k < byL.length from hk), List.getElem?_drop] at e
    have g0 : (p ++ (byL ++ q))[i]? = some 32 := g 0 (by decide)
    have g1 : (p ++ (byL ++ q))[i + 1]? = some 98 := g 1 (by decide)
    rw [List.getElem?_append_left hi] at g0
    obtain ⟨c, h1, h2⟩ := h i g0
    have h3 := (List.getElem?_eq_some_iff.1 h1).1
    rw [List.getElem?_append_left h3, h1] at g1
    exact h2 (Option.some.inj g1)
def gwP (p : D × D) : Prop := Gw 12 p.1 ∧ Gw 12 p.2
theorem read_line {p : D × D} (h : gwP p) : readLine (lineT p) = some p := by
  unfold readLine lineT
  rw [par_line (gw_tok h.1).1]
  simp only
  rw [parse_text (gw_gv h.1) (by decide)]
  simp only
  rw [parse_text (gw_gv h.2) (by decide)]
theorem read_lines : ∀ {rs : List (D × D)}, (∀ p ∈ rs, gwP p) → readLines (rs.map lineT) = some rs
  | [], _ => rfl
  | p :: rs, h => by
    rw [List.map_cons, readLines, read_line (h p (by simp))]
    simp only
    rw [read_lines fun q hq => h q (List.mem_cons_of_mem _ hq)]
theorem line_10 {p : D × D} (h : gwP p) : 10 ∉ lineT p := by
  unfold lineT
  simp only [List.mem_append, not_or]
  exact ⟨(gw_tok h.1).2.1, by decide, (gw_tok h.2).2.1⟩
def textP (rs : List (D × D)) : List Nat := rs.flatMap fun p => lineT p ++ [10]
theorem textP_join : ∀ rs : List (D × D), textP rs = TL.joinL [10] (rs.map lineT ++ [[]])
  | [] => rfl
  | p :: rs => by
    have ih := textP_join rs
    have e : textP (p :: rs) = lineT p ++ (10 :: textP rs) := by
      unfold textP
      rw [List.flatMap_cons, List.append_assoc]; rfl
    rw [e, ih]
    cases rs with
    | nil => rfl
    | cons q rs => rfl
theorem readP_text {rs : List (D × D)} (h : ∀ p ∈ rs, gwP p) (hb : rs.all lineOk = true) : readP (rs.map lineT) [] = some rs := by
  unfold readP
  rw [if_pos rfl, read_lines h]
  simp only
  rw [if_pos hb]
theorem readP_inv {rows : List (List Nat)} {last : List Nat} {rs : List (D × D)} (h : readP rows last = some rs) : TL.joinL [10] (rows ++ [last]) = textP rs ∧ rs.all lineOk = true := by
  unfold readP at h
  split at h
  · rename_i e
    subst e
    split at h
    · cases h
    · rename_i ps hps
      split at h
      · rename_i hb
        cases h
        rw [textP_join, ← readLines_text hps]
        exact ⟨rfl, hb⟩
      · cases h
  · cases h
end Z

set_option maxRecDepth 100000
set_option maxHeartbeats 2000000
set_option autoImplicit false
namespace Z
open PySem PySem.Spec PyProof.Rows L2
open NumText
theorem oAdd_s (a b : List Nat) (m : Mem) (h : a.length + b.length ≤ 10000) : oAdd (.str (sO a)) (.str (sO b)) m = some (.str (sO (a ++ b))) := by
  rw [oAdd_str, if_pos (slLe (by rw [sO_len, sO_len]; omega)), sO_app]
theorem oJoin_lines (ls : List (List Nat)) (m : Mem) (h : (ls.map (·.length)).sum ≤ 10000) : oJoin (.str "") (.lst (ls.map fun l => .str (sO l))) m = some (.str (sO ls.flatten)) := by
  have e : (ls.map fun l => D.str (sO l)) = (ls.map sO).map D.str := by rw [List.map_map]; rfl
  rw [e]
  unfold oJoin
  simp only [asLT, asL, strsOf_map]
  have hl : (ls.map sO).map (·.length) = ls.map (·.length) := by
    rw [List.map_map]
    exact List.map_congr_left fun l _ => sO_len l
  rw [if_pos (by
    rw [hl, show Str.length "" = 0 from rfl, Nat.mul_zero, Nat.add_zero]
    exact slLe (by omega))]
  have hj := joinO [] ls
  have : Txt.join "" (ls.map sO) = sO ls.flatten := by
    refine hj.trans ?_
    congr 1
    clear e hl hj h
    induction ls with
    | nil => rfl
    | cons p r ih =>
      cases r with
      | nil => simp [TL.joinL]
      | cons q r =>
        have : TL.joinL [] (p :: q :: r) = p ++ ([] ++ TL.joinL [] (q :: r)) := rfl
        rw [this, ih]; simp
  rw [this]
theorem nl_eq : ("\n" : Str) = sO [10] := rfl
def okP (p : D × D) : Prop := Vd 69 p.1 ∧ Vd 69 p.2 ∧ (lineT p).length ≤ 2000
theorem lines_sum (rs : List (D × D)) : ((rs.map fun p => lineT p ++ [10]).map (·.length)).sum = (textP rs).length := by
  unfold textP
  rw [List.length_flatMap, List.map_map]; rfl
def lineD : D → D
  | .tup [a, b] => .str (sO (lineT (a, b) ++ [10]))
  | d => d
theorem lineD_map (rs : List (D × D)) : (rs.map pairT).map lineD = (rs.map fun p => lineT p ++ [10]).map fun l => .str (sO l) := by
  rw [List.map_map, List.map_map]; rfl
theorem wF_write_proof (rs : List (D × D)) (m : Mem) (h : ∀ p ∈ rs, okP p) (hl : (textP rs).length ≤ 2000) (hn : rs.length ≤ 1000) : wpE (F_write_proof [.tup (rs.map pairT)] m) fun r m1 => r = .str (sO (textP rs)) ∧ m1 = m := by
  have hlc := wp_lc (T := .t [1, 2]) (t := tYesF) (p := (pBin oAdd (pBin oAdd (pBin oAdd (pApp (F_write_value (70)) 1 (pCons (pVar 1) pNil)) (pC (.str " by "))) (pApp (F_write_value (70)) 1 (pCons (pVar 2) pNil))) (pC (.str "\n")))) (e := [some (.tup (rs.map pairT)), none, none]) (fun m1 => m1 = m) (fun _ => true) lineD (rs.map pairT) m (by
    intro d hd m1 hm
    subst hm
    obtain ⟨p, hp, rfl⟩ := List.mem_map.1 hd
    obtain ⟨h1, h2, h3⟩ := h p hp
    have hlen : (lineT p).length = (textL p.1).length + (4 + (textL p.2).length) := by unfold lineT; simp [byL]; omega
    refine ⟨_, rfl, ?_⟩
    simp [tYesF, setAll]
    refine (wF_write 69 p.1 m1 h1 (by omega)).mono ?_
    rintro _ m2 ⟨rfl, rfl⟩
    have a1 := oAdd_s (textL p.1) byL m2 (by simp [byL]; omega)
    rw [← by_eq] at a1
    simp [a1]
    refine (wF_write 69 p.2 m2 h2 (by omega)).mono ?_
    rintro _ m3 ⟨rfl, rfl⟩
    have a2 := oAdd_s (textL p.1 ++ byL) (textL p.2) m3 (by simp [byL]; omega)
    have a3 := oAdd_s (textL p.1 ++ byL ++ textL p.2) [10] m3 (by simp [byL]; omega)
    rw [← nl_eq] at a3
    simp [a2, pairT, lineT]
    simp at a3
    simp [a3, lineD, lineT]) rfl
  rw [List.filter_eq_self.2 (fun _ _ => rfl), lineD_map] at hlc
  have hj := oJoin_lines (rs.map fun p => lineT p ++ [10]) m (by rw [lines_sum]; omega)
  have hsz : rs.length ≤ SL := slLe (by omega)
  refine wp_fn ?_
  simp [B_write_proof, startE, pLc, pLcG_app, hsz, -List.map_map]
  refine hlc.mono ?_
  rintro ys m1 ⟨rfl, rfl⟩
  rw [hj]
  simp [textP, List.flatMap_def]
theorem wF_proof_text (rs : List (D × D)) (m : Mem) (h : ∀ p ∈ rs, okP p) (hl : (textP rs).length ≤ 2000) (hn : rs.length ≤ 1000) : wpE (F__law_m_proof_text [.tup (rs.map pairT)] m) fun r m1 => r = .str (sO (textP rs)) ∧ m1 = m := by
  have hlc := wp_lc (T := .t [1, 2]) (t := tYesF) (p := (pBin oAdd (pBin oAdd (pBin oAdd (pApp (F__law_m_text (70)) 1 (pCons (pVar 1) pNil)) (pC (.str " by "))) (pApp (F__law_m_text (70)) 1 (pCons (pVar 2) pNil))) (pC (.str "\n")))) (e := [some (.tup (rs.map pairT)), none, none]) (fun m1 => m1 = m) (fun _ => true) lineD (rs.map pairT) m (by
    intro d hd m1 hm
    subst hm
    obtain ⟨p, hp, rfl⟩ := List.mem_map.1 hd
    obtain ⟨h1, h2, h3⟩ := h p hp
    have hlen : (lineT p).length = (textL p.1).length + (4 + (textL p.2).length) := by unfold lineT; simp [byL]; omega
    refine ⟨_, rfl, ?_⟩
    simp [tYesF, setAll]
    refine (wF_text 69 p.1 m1 h1 (by omega)).mono ?_
    rintro _ m2 ⟨rfl, rfl⟩
    have a1 := oAdd_s (textL p.1) byL m2 (by simp [byL]; omega)
    rw [← by_eq] at a1
    simp [a1]
    refine (wF_text 69 p.2 m2 h2 (by omega)).mono ?_
    rintro _ m3 ⟨rfl, rfl⟩
    have a2 := oAdd_s (textL p.1 ++ byL) (textL p.2) m3 (by simp [byL]; omega)
    have a3 := oAdd_s (textL p.1 ++ byL ++ textL p.2) [10] m3 (by simp [byL]; omega)
    rw [← nl_eq] at a3
    simp [a2, pairT, lineT]
    simp at a3
    simp [a3, lineD, lineT]) rfl
  rw [List.filter_eq_self.2 (fun _ _ => rfl), lineD_map] at hlc
  have hj := oJoin_lines (rs.map fun p => lineT p ++ [10]) m (by rw [lines_sum]; omega)
  have hsz : rs.length ≤ SL := slLe (by omega)
  refine wp_fn ?_
  simp [B__law_m_proof_text, startE, pLc, pLcG_app, hsz, -List.map_map]
  refine hlc.mono ?_
  rintro ys m1 ⟨rfl, rfl⟩
  rw [hj]
  simp [textP, List.flatMap_def]

def badR : D := .lst [.str "bad", .bl true]
theorem lk_r1 : List.lookup ("BadText" : Str) [(("BadText" : Str), [D.str "bad", D.bl true]), ("NotAProof", [D.str "bad", D.bl true])] = some [D.str "bad", D.bl true] := rfl
theorem lk_r2 : List.lookup ("NotAProof" : Str) [(("BadText" : Str), [D.str "bad", D.bl true]), ("NotAProof", [D.str "bad", D.bl true])] = some [D.str "bad", D.bl true] := rfl
noncomputable def readD (rows : List (List Nat)) (last : List Nat) : D := match readP rows last with
  | some rs => .lst [.str "read", .tup (rs.map pairT)]
  | none => badR
theorem wF_m_read (rows : List (List Nat)) (last : List Nat) (m : Mem) (h10 : ∀ p ∈ rows ++ [last], 10 ∉ p) (hl : (TL.joinL [10] (rows ++ [last])).length ≤ 990) (hc : ∀ c ∈ TL.joinL [10] (rows ++ [last]), c < 1000) (hn : rows.length ≤ 1000) :
    wpE (F__law_m_read [.str (sO (TL.joinL [10] (rows ++ [last])))] m) fun d m' => d = readD rows last ∧ Keep m m' ∧ ∀ rs, readP rows last = some rs → ∀ p ∈ rs, vdP p ∧ Ok Ab 991 60 p.1 ∧ Ok Ab 991 60 p.2 := by
  have key := wF_read_proof rows last m h10 hl hc hn
  refine wp_fn ?_
  unfold B__law_m_read
  refine wp_try ?_
  simp [startE]
  refine key.mono ?_ ?_
  · rintro d m1 ⟨k1, rs, h1, rfl, h2⟩
    unfold readD
    rw [h1]
    exact ⟨rfl, k1, fun rs' e => by cases e; exact fun a b h => h2 (a, b) h⟩
  · rintro c m1 ⟨h1, h2, k1⟩
    unfold readD
    rw [h2]
    rcases h1 with rfl | rfl
    · exact ⟨_, lk_r1, rfl, k1, fun _ e => nomatch e⟩
    · exact ⟨_, lk_r2, rfl, k1, fun _ e => nomatch e⟩
end Z

set_option maxRecDepth 100000
set_option maxHeartbeats 2000000
set_option autoImplicit false
namespace Z
open PySem PySem.Spec PyProof.Rows L2
open NumText
/-! the law's lines -/
def nmR (r : Rat) : D := .tup [.tup [.int (-r.num), .int r.den], rD r, rD r]
theorem wF_m_ratio (r : Rat) (m : Mem) : wpE (F__law_m_ratio [rD r] m) fun d m1 => d = nmR r ∧ m1 = m := by
  refine wp_fn ?_
  simp [B__law_m_ratio, startE, rD, atI_0, atI_1, nmR]
theorem plR (r : Rat) : isPlB [-r.num, (r.den : Int)] = true := by
  have h1 := r.den_pos
  have h2 : cont [-r.num, (r.den : Int)] = 1 := by
    show ((Int.gcd ((Int.gcd 0 (-r.num) : Nat) : Int) (r.den : Int) : Nat) : Int) = 1
    have : Int.gcd ((Int.gcd 0 (-r.num) : Nat) : Int) (r.den : Int) = Nat.gcd r.num.natAbs r.den := by
      simp [Int.gcd]
    rw [this, r.reduced]; rfl
  have h3 : co [-r.num, (r.den : Int)] ([-r.num, (r.den : Int)].length - 1) = r.den := rfl
  unfold isPlB
  rw [h2, h3]
  simp
  omega
theorem frR (r : Rat) : frD (rD r) = true := by
  have h1 := r.den_pos
  have h2 : Int.gcd r.num r.den = 1 := by
    have := r.reduced
    simpa [Int.gcd] using this
  simp [frD, rD, h2]
  omega
theorem nameR (r : Rat) : nameD (nmR r) = true := by
  have h1 := plR r
  have h2 := frR r
  have h3 : isPolyD (.tup [.int (-r.num), .int (r.den : Int)]) = true := by
    have := r.den_pos
    simp [isPolyD, isIntD, lastNz]
    omega
  have h4 : polyI (.tup [.int (-r.num), .int (r.den : Int)]) = some [-r.num, (r.den : Int)] := rfl
  have h5 : rowNm [-r.num, (r.den : Int)] (rD r) = true := by simp [rowNm, rD]
  have h6 : eqPr (rD r) (rD r) = true := by simp [eqPr, rD]
  show (isPolyD (.tup [.int (-r.num), .int (r.den : Int)]) && (match polyI (.tup [.int (-r.num), .int (r.den : Int)]) with
    | some xs => isPlB xs && (frD (rD r) && (frD (rD r) && (if xs.length = 2 then rowNm xs (rD r) && eqPr (rD r) (rD r) else lessD (rD r) (rD r))))
    | none => false)) = true
  rw [h3, h4]
  simp [h1, h2, h5, h6]
def sqF (n : Int) : D := .tup [.int (-n), .int 0, .int 1]
def nmX (n x : Int) : D := .tup [sqF n, .tup [.int x, .int 1], .tup [.int (x + 1), .int 1]]
def sqL (n x p : Int) : List (D × D) := [(.tup [.str "unpartable", sqF n], .tup [.str "shift", .int 0, .int p]),
  (.tup [.str "count", sqF n, .tup [.int x, .int 1], .tup [.int (x + 1), .int 1], .int 1], .tup [.str "signs", .tup [sqF n, .tup [.int 0, .int 1], .tup [.int 1]], .tup [.tup [.int 1, .tup [.int 0, .int 1], .int n]]]),
  (.tup [.str "named", nmX n x], .tup [.str "stretch", .int 0, .int 1])]
def sqB (n x p : Int) : Bool := (sqL n x p).all lineOk && nameD (nmX n x)
theorem wF_sq_proof {n : Int} (h : n = 2 ∨ n = 3 ∨ n = 5 ∨ n = 6 ∨ n = 7) (m : Mem) : ∃ x p, F__law_m_square_proof [.int n] m = some (.ok (.tup ((sqL n x p).map pairT)) m) ∧ sqB n x p = true ∧ 1 ≤ x ∧ x ≤ 2 ∧ 2 ≤ p ∧ p ≤ 7 := by
  rcases h with rfl | rfl | rfl | rfl | rfl
  · exact ⟨1, 2, rfl, by decide, by decide⟩
  · exact ⟨1, 3, rfl, by decide, by decide⟩
  · exact ⟨2, 5, rfl, by decide, by decide⟩
  · exact ⟨2, 2, rfl, by decide, by decide⟩
  · exact ⟨2, 7, rfl, by decide, by decide⟩
def moreL (X Y F : D) (x : Int) (n : Int) : List (D × D) := [(.tup [.str "named", Y], .tup [.str "fraction"]),
  (.tup [.str "is", X, .tup [.str "root", .int 2, .tup [.str "name", Y]]], .tup [.str "made", .int 2, .tup [.int 3], .non]),
  (.tup [.str "unpartable", F], .tup [.str "lots", .int 3, .int 2, .tup [F, .tup [.int 1, .int 1]]]),
  (.tup [.str "parts", F, .int (-1), .tup [.tup [F, .int 2]]], .tup [.str "product", .tup [.int 0]]),
  (.tup [.str "equal", X, Y], .tup [.str "same", .int 2, .int 3, .int 1]),
  (.tup [.str "unpartable", F], .tup [.str "moved", .int 0, .tup [.str "scale", .tup [.int (-1), .int 2]]]),
  (.tup [.str "count", sqF n, .tup [.int x, .int 1], .tup [.int (x + 1), .int 1], .int 1], .tup [.str "joined", .int 0, .int 1])]
theorem more_ok {X Y F : D} {x n : Int} (hX : nameD X = true) (hY : nameD Y = true) (hF : plD F = true) (hc : countD [sqF n, .tup [.int x, .int 1], .tup [.int (x + 1), .int 1], .int 1] = true) : (moreL X Y F x n).all lineOk = true := by
  have hP : isPolyD F = true := by unfold plD at hF; rw [Bool.and_eq_true] at hF; exact hF.1
  have hN : polyNz F = true := by
    unfold plD at hF
    rw [Bool.and_eq_true] at hF
    obtain ⟨xs, rfl, hx⟩ := polyI_of hF.1
    unfold polyNz
    rw [hF.1]
    have h2 := hF.2
    rw [hx] at h2
    simp only [isPlB, Bool.and_eq_true, decide_eq_true_eq] at h2
    cases xs with
    | nil => simp at h2
    | cons a r => rfl
  have hpr : pairD (.tup [F, .int 2]) = true := by simp [pairD, hF]
  simp only [moreL, List.all_cons, List.all_nil, Bool.and_true, lineOk, Bool.and_eq_true]
  refine ⟨⟨?_, by decide⟩, ⟨?_, by decide⟩, ⟨?_, ?_⟩, ⟨?_, by decide⟩, ⟨?_, by decide⟩, ⟨?_, by decide⟩, ⟨?_, by decide⟩⟩
  · exact (show statementD (.tup [.str "named", Y]) = nameD Y from rfl).trans hY
  · have h1 : statementD (.tup [.str "is", X, .tup [.str "root", .int 2, .tup [.str "name", Y]]]) = (nameD X && treeF 70 (.tup [.str "root", .int 2, .tup [.str "name", Y]])) := rfl
    have h2 : treeF 70 (.tup [.str "root", .int 2, .tup [.str "name", Y]]) = (decide ((2 : Int) ≤ 2) && (decide ((2 : Int) ≤ 6) && nameD Y)) := rfl
    rw [h1, h2, hX, hY]; rfl
  · exact (show statementD (.tup [.str "unpartable", F]) = plD F from rfl).trans hF
  · have h1 : polyNz (.tup [.int 1, .int 1]) = true := by decide
    have h2 : reasonD (.tup [.str "lots", .int 3, .int 2, .tup [F, .tup [.int 1, .int 1]]]) = (decide ((1 : Int) ≤ 2) && (List.all [F, .tup [.int 1, .int 1]] polyNz)) := rfl
    rw [h2]
    simp [hN, h1]
  · have h1 : statementD (.tup [.str "parts", F, .int (-1), .tup [.tup [F, .int 2]]]) = (isPolyD F && (true && partsD (.tup [.tup [F, .int 2]]))) := rfl
    rw [h1, hP]
    simp [partsD, hpr]
  · have h1 : statementD (.tup [.str "equal", X, Y]) = (nameD X && nameD Y) := rfl
    rw [h1, hX, hY]; rfl
  · exact (show statementD (.tup [.str "unpartable", F]) = plD F from rfl).trans hF
  · exact (show statementD (.tup [.str "count", sqF n, .tup [.int x, .int 1], .tup [.int (x + 1), .int 1], .int 1]) = countD [sqF n, .tup [.int x, .int 1], .tup [.int (x + 1), .int 1], .int 1] from rfl).trans hc
/-! how long and of what: read off the shape -/
mutual
def lenB : D → Nat
  | .non => 1
  | .int _ => 5
  | .str s => s.cps.toList.length
  | .tup l => lenBs l + 2
  | _ => 0
def lenBs : List D → Nat
  | [] => 0
  | d :: l => lenB d + 1 + lenBs l
end
mutual
def shB : D → Bool
  | .non => true
  | .int _ => true
  | .str s => !s.cps.toList.isEmpty && (s.cps.toList.all letB && decide (s.cps.toList.head? ≠ some 98))
  | .tup l => shBs l
  | _ => false
def shBs : List D → Bool
  | [] => true
  | d :: l => shB d && shBs l
end
mutual
def dpB : D → Nat
  | .tup l => dpBs l + 1
  | _ => 0
def dpBs : List D → Nat
  | [] => 0
  | d :: l => max (dpB d) (dpBs l)
end
mutual
def itB : D → List Int
  | .int i => [i]
  | .tup l => itBs l
  | _ => []
def itBs : List D → List Int
  | [] => []
  | d :: l => itB d ++ itBs l
end
theorem intL_len {i : Int} (h : i.natAbs < 2000) : (intL i).length ≤ 5 := by
  have key : ∀ n : Nat, n < 2000 → (TL.numL n).length ≤ 4 := by decide
  unfold intL
  split
  · have := key _ h
    simp only [List.length_cons]; omega
  · have := key _ h
    omega
mutual
theorem lenB_ok : ∀ (d : D), shB d = true → (∀ i ∈ itB d, i.natAbs < 2000) → (textL d).length ≤ lenB d
  | .non, _, _ => by simp [textL, lenB]
  | .int i, _, h => by simp only [textL, lenB]; exact intL_len (h i (by simp [itB]))
  | .str s, _, _ => by simp only [textL, lenB]; exact Nat.le_refl _
  | .tup l, hs, h => by
    have := lenBs_ok l hs h
    have := tup_len l
    simp only [lenB]
    omega
  | .bl _, hs, _ => by cases hs
  | .lst _, hs, _ => by cases hs
  | .ro _, hs, _ => by cases hs
  | .loc _, hs, _ => by cases hs
theorem lenBs_ok : ∀ (l : List D), shBs l = true → (∀ i ∈ itBs l, i.natAbs < 2000) → wt l ≤ lenBs l
  | [], _, _ => by simp [wt, lenBs]
  | d :: l, hs, h => by
    simp only [shBs, Bool.and_eq_true] at hs
    have h1 := lenB_ok d hs.1 fun i hi => h i (by rw [itBs]; exact List.mem_append_left _ hi)
    have h2 := lenBs_ok l hs.2 fun i hi => h i (by rw [itBs]; exact List.mem_append_right _ hi)
    have e : wt (d :: l) = ((textL d).length + 1) + wt l := by simp [wt]
    rw [e, lenBs]
    omega
end
theorem lt60 {n : Nat} (h : n < 2000) : n < 10 ^ 60 := Nat.lt_of_lt_of_le h (Nat.le_trans (by decide : 2000 ≤ 10 ^ 4) (Nat.pow_le_pow_right (by decide) (by decide)))
mutual
theorem gw_ok : ∀ (n : Nat) (d : D), dpB d ≤ n → shB d = true → (∀ i ∈ itB d, i.natAbs < 2000) → Gw n d
  | n, .non, _, _, _ => by cases n <;> trivial
  | n, .int i, _, _, h => by cases n <;> exact lt60 (h i (by simp [itB]))
  | n, .str s, _, hs, _ => by
    simp only [shB, Bool.and_eq_true, decide_eq_true_eq] at hs
    have : s.cps.toList ≠ [] := by
      intro e
      rw [e] at hs
      simp at hs
    cases n <;> exact ⟨this, hs.2.1, hs.2.2⟩
  | 0, .tup l, hd, _, _ => by simp [dpB] at hd
  | n + 1, .tup l, hd, hs, h => by
    simp only [dpB] at hd
    exact gws_ok n l (by omega) hs h
  | _, .bl _, _, hs, _ => by cases hs
  | _, .lst _, _, hs, _ => by cases hs
  | _, .ro _, _, hs, _ => by cases hs
  | _, .loc _, _, hs, _ => by cases hs
theorem gws_ok : ∀ (n : Nat) (l : List D), dpBs l ≤ n → shBs l = true → (∀ i ∈ itBs l, i.natAbs < 2000) → ∀ d ∈ l, Gw n d
  | n, [], _, _, _ => fun d hd => (List.not_mem_nil hd).elim
  | n, e :: l, hd, hs, h => fun d hm => by
    simp only [shBs, Bool.and_eq_true] at hs
    simp only [dpBs] at hd
    have h1 := gw_ok n e (by omega) hs.1 fun i hi => h i (by rw [itBs]; exact List.mem_append_left _ hi)
    have h2 := gws_ok n l (by omega) hs.2 fun i hi => h i (by rw [itBs]; exact List.mem_append_right _ hi)
    rcases List.mem_cons.1 hm with rfl | hm
    · exact h1
    · exact h2 d hm
end
def lnB (p : D × D) : Bool := shB p.1 && (shB p.2 && (decide (dpB p.1 ≤ 12) && (decide (dpB p.2 ≤ 12) && decide (lenB p.1 + lenB p.2 ≤ 155))))
/-- a line as the law makes them -/
def Ln (p : D × D) : Prop := gwP p ∧ (lineT p).length ≤ 159 ∧ lineOk p = true
theorem ln_ok {p : D × D} (h : lnB p = true) (hi : ∀ i ∈ itB p.1 ++ itB p.2, i.natAbs < 2000) (ho : lineOk p = true) : Ln p := by
  simp only [lnB, Bool.and_eq_true, decide_eq_true_eq] at h
  obtain ⟨h1, h2, h3, h4, h5⟩ := h
  have i1 : ∀ i ∈ itB p.1, i.natAbs < 2000 := fun i h => hi i (List.mem_append_left _ h)
  have i2 : ∀ i ∈ itB p.2, i.natAbs < 2000 := fun i h => hi i (List.mem_append_right _ h)
  refine ⟨⟨gw_ok _ _ h3 h1 i1, gw_ok _ _ h4 h2 i2⟩, ?_, ho⟩
  have a := lenB_ok _ h1 i1
  have b := lenB_ok _ h2 i2
  unfold lineT
  simp [byL]
  omega
theorem sq_ln {n x p : Int} (h : sqB n x p = true) (hn : n.natAbs ≤ 7) (hx : 1 ≤ x ∧ x ≤ 2) (hp : 2 ≤ p ∧ p ≤ 7) : ∀ q ∈ sqL n x p, Ln q := by
  intro q hq
  unfold sqB at h
  rw [Bool.and_eq_true] at h
  have ho := List.all_eq_true.1 h.1 q hq
  refine ln_ok ?_ ?_ ho
  · simp only [sqL, List.mem_cons, List.not_mem_nil, or_false] at hq
    rcases hq with rfl | rfl | rfl <;> rfl
  · simp only [sqL, List.mem_cons, List.not_mem_nil, or_false] at hq
    rcases hq with rfl | rfl | rfl <;> simp [sqF, nmX, itB, itBs] <;> omega
theorem more_ln {n x a b c : Int} {r : Rat} (hX : nameD (nmX n x) = true) (hF : plD (.tup [.int a, .int b, .int c]) = true) (hc : countD [sqF n, .tup [.int x, .int 1], .tup [.int (x + 1), .int 1], .int 1] = true)
    (hr : RB 3 r) (ha : a.natAbs < 1024) (hb : b.natAbs < 1024) (hcc : c.natAbs < 1024) (hn : n.natAbs ≤ 7) (hx : 1 ≤ x ∧ x ≤ 2) : ∀ q ∈ moreL (nmX n x) (nmR r) (.tup [.int a, .int b, .int c]) x n, Ln q := by
  intro q hq
  have ho := List.all_eq_true.1 (more_ok hX (nameR r) hF hc) q hq
  have r1 := hr.1
  have r2 := hr.2
  refine ln_ok ?_ ?_ ho
  · simp only [moreL, List.mem_cons, List.not_mem_nil, or_false] at hq
    rcases hq with rfl | rfl | rfl | rfl | rfl | rfl | rfl <;> rfl
  · simp only [moreL, List.mem_cons, List.not_mem_nil, or_false] at hq
    rcases hq with rfl | rfl | rfl | rfl | rfl | rfl | rfl <;> simp [sqF, nmX, nmR, rD, itB, itBs] <;> omega
end Z

set_option maxRecDepth 100000
set_option maxHeartbeats 2000000
set_option autoImplicit false
namespace Z
open PySem PySem.Spec PyProof.Rows L2
open NumText
theorem ex_rows (s : Nat) : ∀ l : List Nat, ∃ rows last, l = TL.joinL [s] (rows ++ [last]) ∧ (∀ p ∈ rows ++ [last], s ∉ p) ∧ rows.length ≤ l.length
  | [] => ⟨[], [], rfl, by simp, by simp⟩
  | c :: l => by
    obtain ⟨rows, last, h1, h2, h3⟩ := ex_rows s l
    by_cases hc : c = s
    · refine ⟨[] :: rows, last, ?_, ?_, by simp; omega⟩
      · have : TL.joinL [s] ([] :: (rows ++ [last])) = s :: TL.joinL [s] (rows ++ [last]) := by
          cases rows with
          | nil => rfl
          | cons r t => rfl
        rw [List.cons_append, this, ← h1, hc]
      · intro p hp
        rw [List.cons_append] at hp
        rcases List.mem_cons.1 hp with rfl | hp
        · simp
        · exact h2 p hp
    · cases rows with
      | nil =>
        refine ⟨[], c :: last, ?_, ?_, by simp⟩
        · rw [h1]; rfl
        · intro p hp
          have : p = c :: last := by simpa using hp
          subst this
          intro hm
          rcases List.mem_cons.1 hm with e | hm
          · exact hc e.symm
          · exact h2 last (by simp) hm
      | cons r t =>
        refine ⟨(c :: r) :: t, last, ?_, ?_, by simp at h3 ⊢; omega⟩
        · have : ∀ r' : List Nat, TL.joinL [s] ((r' :: t) ++ [last]) = r' ++ (s :: TL.joinL [s] (t ++ [last])) := fun r' => by
            cases t with
            | nil => rfl
            | cons q t => rfl
          rw [this]
          rw [this] at h1
          rw [h1]; rfl
        · intro p hp
          rw [List.cons_append] at hp
          rcases List.mem_cons.1 hp with rfl | hp
          · intro hm
            rcases List.mem_cons.1 hm with e | hm
            · exact hc e.symm
            · exact h2 r (by simp) hm
          · exact h2 p (by rw [List.cons_append]; exact List.mem_cons_of_mem _ hp)
def LB : PSF := (sSeq (sSet 13 (pApp F__law_m_read 1 (pCons (pVar 12) pNil)))
  (sIf (pOrT (pAndT (pTst (pBin oEq (pBin oIx (pVar 13) (pC (.int 0))) (pC (.str "read")))) (pOrT (pTst (pBin oNe (pApp F__law_m_proof_text 1 (pCons (pBin oIx (pVar 13) (pC (.int 1))) pNil)) (pVar 12))) (pNotT (pTru (pApp F_is_proof 1 (pCons (pBin oIx (pVar 13) (pC (.int 1))) pNil)))))) (pAndT (pTst (pBin oEq (pBin oIx (pVar 13) (pC (.int 0))) (pC (.str "bad")))) (pTst (pBin oIsNot (pBin oIx (pVar 13) (pC (.int 1))) (pC (.bl true)))))) (sRet (pC (.bl false))) sNop))
theorem rb_ne : ("read" : Str) ≠ "bad" := by decide
theorem br_ne : ("bad" : Str) ≠ "read" := by decide
theorem law_body (x : List Nat) (hx : x.length ≤ 990) (hc : ∀ c ∈ x, c < 1000) (a0 a1 a2 a3 a4 a5 a6 a7 a8 a9 a10 a11 z13 a14 : Option D) (m : Mem) :
    wpS (LB [a0, a1, a2, a3, a4, a5, a6, a7, a8, a9, a10, a11, some (.str (sO x)), z13, a14] m)
      (fun e m1 => (∃ z, e = [a0, a1, a2, a3, a4, a5, a6, a7, a8, a9, a10, a11, some (.str (sO x)), z, a14]) ∧ Keep m m1) (fun _ _ => False) := by
  obtain ⟨rows, last, hj, h10, hn⟩ := ex_rows 10 x
  subst hj
  unfold LB
  simp
  refine (wF_m_read rows last m h10 hx hc (by omega)).mono ?_
  rintro d m1 ⟨rfl, kp, hok⟩
  unfold readD
  cases hr : readP rows last with
  | none =>
    have h0 : oIx badR (.int 0) m1 = some (.str "bad") := rfl
    have h1 : oIx badR (.int 1) m1 = some (.bl true) := rfl
    have h2 : oIsNot (.bl true) (.bl true) m1 = some (.bl false) := rfl
    simp [h0, h1, h2, br_ne, kp]
  | some rs =>
    obtain ⟨ht, hb⟩ := readP_inv hr
    have hk := hok rs hr
    have hlen : (textP rs).length ≤ 990 := by rw [← ht]; exact hx
    have hsub : ∀ p ∈ rs, (lineT p).length ≤ (textP rs).length := fun p hp => by
      rw [textP_join]
      exact (mem_join 10 (List.mem_append_left _ (List.mem_map_of_mem hp))).2
    have hrn : rs.length ≤ (textP rs).length := by
      clear hk hr hb ht hlen hsub
      induction rs with
      | nil => simp
      | cons p rs ih =>
        have e : textP (p :: rs) = (lineT p ++ [10]) ++ textP rs := by unfold textP; rw [List.flatMap_cons]
        rw [e]
        simp
        omega
    obtain ⟨_, m2, q, rfl, rfl⟩ := (wF_proof_text rs m1 (fun p hp => ⟨(hk p hp).1.1.up (by decide), (hk p hp).1.2.up (by decide), by have := hsub p hp; omega⟩) (by omega) (by omega)).out
    obtain ⟨_, m3, q2, rfl, rfl⟩ := (wF_is_proofP (L := 991) (by decide) rs m2 (fun p hp => (hk p hp).2)).out
    rw [hb] at q2
    simp [atI_0, atI_1, q, q2, ht, oNe_str, rb_ne, kp]
end Z

set_option maxRecDepth 100000
set_option maxHeartbeats 2000000
set_option autoImplicit false
namespace Z
open PySem PySem.Spec PyProof.Rows L2
open NumText
/-! reckoned -/
instance decW (b : List Nat) : Decidable (wOk b) := inferInstanceAs (Decidable ((b ≠ [] ∧ (∀ c ∈ b, 48 ≤ c ∧ c ≤ 57) ∧ (b.head? = some 48 → b = [48])) ∧ b.length ≤ 60))
def wholeC (l : List Nat) : Option Int := if l.head? = some 45 then (if wOk l.tail ∧ l.tail ≠ [48] then some (-((digitsVal l.tail : Nat) : Int)) else none) else if wOk l then some ((digitsVal l : Nat) : Int) else none
theorem whole_C (l : List Nat) : wholeL l = wholeC l := by
  unfold wholeL wholeC
  by_cases h1 : l.head? = some 45
  · rw [if_pos h1, if_pos h1]
    by_cases h2 : wOk l.tail ∧ l.tail ≠ [48]
    · rw [if_pos h2, if_pos h2]
    · rw [if_neg h2, if_neg h2]
  · rw [if_neg h1, if_neg h1]
    by_cases h2 : wOk l
    · rw [if_pos h2, if_pos h2]
    · rw [if_neg h2, if_neg h2]
def readC (k : List Nat) : Option D := if k = [46] then some .non else if k.all letB = true then some (.str (sO k)) else match wholeC k with
  | some i => some (.int i)
  | none => none
theorem read_C (k : List Nat) : readMark k = readC k := by unfold readMark readC; rw [whole_C]; all_goals (cases wholeC k <;> rfl)
def stepC (st : List D × List (List D)) (k : List Nat) : Option (List D × List (List D)) :=
  if k = [40] then (if st.2.length + 2 ≤ 60 then some ([], st.1 :: st.2) else none)
  else if k = [41] then (match st.2 with
    | [] => none
    | u :: b => some (u ++ [.tup st.1], b))
  else match readC k with
    | some d => some (st.1 ++ [d], st.2)
    | none => none
theorem step_C (st : List D × List (List D)) (k : List Nat) : step st k = stepC st k := by obtain ⟨t, b⟩ := st; unfold step stepC; rw [read_C]; all_goals (cases b <;> cases readC k <;> rfl)
def runC : List D × List (List D) → List (List Nat) → Option (List D × List (List D))
  | st, [] => some st
  | st, k :: r => match stepC st k with
    | some st' => runC st' r
    | none => none
theorem run_C : ∀ (ms : List (List Nat)) (st : List D × List (List D)), run st ms = runC st ms
  | [], _ => rfl
  | k :: ms, st => by
    rw [run, runC, step_C]
    cases stepC st k with
    | none => rfl
    | some s => exact run_C ms s
def parseC (t : List Nat) : Bool := match runC ([], []) (words (expL t) []) with
  | some ([d], []) => decide (textL d = t)
  | _ => false
theorem parse_C (t : List Nat) : (parse t).isSome = parseC t := by
  unfold parse parseC marks
  rw [run_C]
  generalize runC ([], []) (words (expL t) []) = o
  match o with
  | none => rfl
  | some ([], b) => rfl
  | some (d :: e :: l, b) => rfl
  | some ([d], u :: b) => rfl
  | some ([d], []) =>
    show (if textL d = t then some d else none).isSome = decide (textL d = t)
    by_cases h1 : textL d = t
    · rw [if_pos h1, decide_eq_true h1]; rfl
    · rw [if_neg h1, decide_eq_false h1]; rfl
/-! what the law reads -/
theorem wp_ctn {o : Option SOut} {k : Ev → Mem → Option SOut} {N : Ev → Mem → Prop} {R : D → Mem → Prop} (h : wpS o (fun e m => wpS (k e m) N R) R) : wpS (ctn o k) N R := by
  cases o with
  | none => unfold wpS at h; exact h.elim
  | some o =>
    cases o with
    | nx e m => rw [wpS_nx] at h; exact h
    | rt d m => rw [wpS_rt] at h; show wpS (some (SOut.rt _ _)) N R; rw [wpS_rt]; exact h
    | exc c e m => unfold wpS at h; exact h.elim
    | bk e m => unfold wpS at h; exact h.elim
    | ct e m => unfold wpS at h; exact h.elim
theorem parse_none {t : List Nat} (h : parseC t = false) : parse t = none := by
  have := parse_C t
  rw [h] at this
  cases hp : parse t with
  | none => rfl
  | some d => rw [hp] at this; cases this
theorem addS (x y : Str) (m : Mem) (h1 : x.length ≤ 50000) (h2 : y.length ≤ 50000) : oAdd (.str x) (.str y) m = some (.str (x ++ y)) := by rw [oAdd_str, if_pos (slLe (by omega))]
/-! the texts that are none -/
def TB (rows : List (List Nat)) (last : List Nat) : Prop := readP rows last = none ∧ (∀ p ∈ rows ++ [last], 10 ∉ p) ∧ (TL.joinL [10] (rows ++ [last])).length ≤ 990 ∧ (∀ c ∈ TL.joinL [10] (rows ++ [last]), c < 1000) ∧ rows.length ≤ 1000
theorem none_of {r : List Nat} (h : readLine r = none) : readP [r] [] = none := by
  unfold readP
  rw [if_pos rfl, readLines, h]
theorem false_of {p : D × D} (h : gwP p) (h2 : lineOk p = false) : readP [lineT p] [] = none := by
  unfold readP
  rw [if_pos rfl, readLines, read_line h]
  simp [readLines, h2]
def t3 : List Nat := ("(unpartable (0 1)) by (line)" : Str).cps.toList
def t4 : List Nat := ("(unpartable (0 1)) (line)" : Str).cps.toList
def t8 : List Nat := ("(unpartable (0 1)) by (line) by (line)" : Str).cps.toList
def un01 : D := .tup [.str "unpartable", .tup [.int 0, .int 1]]
def un02 : D := .tup [.str "unpartable", .tup [.int 0, .int 2]]
def ln1 : D × D := (un01, .tup [.str "line"])
def ln5 : D × D := (un02, .tup [.str "line"])
def ln6 : D × D := (un01, .tup [.str "lines"])
def ln2 : D × D := (.int 1, .int 2)
theorem gw_ln {p : D × D} (h : lnB p = true) (hi : (itB p.1 ++ itB p.2).all (fun i => decide (i.natAbs < 2000)) = true) : gwP p := by
  simp only [lnB, Bool.and_eq_true, decide_eq_true_eq] at h
  obtain ⟨h1, h2, h3, h4, h5⟩ := h
  have hi := List.all_eq_true.1 hi
  exact ⟨gw_ok _ _ h3 h1 fun i h => by simpa using hi i (List.mem_append_left _ h), gw_ok _ _ h4 h2 fun i h => by simpa using hi i (List.mem_append_right _ h)⟩
theorem tb1 : TB [[]] [] := ⟨none_of (by unfold readLine; rfl), by decide⟩
theorem tb2 : TB [lineT ln2] [] := ⟨false_of (gw_ln rfl rfl) rfl, by decide⟩
theorem tb3 : TB [] t3 := ⟨rfl, by decide⟩
theorem tb4 : TB [t4] [] := ⟨none_of (by
  have : TL.par byL [] t4 = none := by rfl
  unfold readLine; rw [this]), by decide⟩
theorem tb5 : TB [lineT ln5] [] := ⟨false_of (gw_ln rfl rfl) (by decide), by decide⟩
theorem tb6 : TB [lineT ln6] [] := ⟨false_of (gw_ln rfl rfl) (by decide), by decide⟩
theorem tb7 : TB [byL] [] := ⟨none_of (by
  have : TL.par byL [] byL = some ([], []) := by rfl
  unfold readLine; rw [this]; simp only
  rw [parse_none (by rfl)]), by decide⟩
theorem tb8 : TB [t8] [] := ⟨none_of (by
  have : TL.par byL [] t8 = some (textL un01, ("(line) by (line)" : Str).cps.toList) := by rfl
  unfold readLine; rw [this]; simp only
  have hp : parse (textL un01) = some un01 := parse_text (gw_gv (gw_ln (p := ln1) rfl rfl).1) (by decide)
  rw [hp]; simp only
  rw [parse_none (by rfl)]), by decide⟩
end Z

set_option maxRecDepth 100000
set_option maxHeartbeats 2000000
set_option autoImplicit false
namespace Z
open PySem PySem.Spec PyProof.Rows L2
def T_law_15 : PSF := (sRet (pAndV (pBin oEq (pApp F__law_m_read 1 (pCons (pC (.str "")) pNil)) (pLst (pCons (pC (.str "read")) (pCons (pTup pNil) pNil)))) (pBin oEq (pApp F__law_m_read 1 (pCons (pC (.str "(unpartable (0 1)) by (line)\n")) pNil)) (pLst (pCons (pC (.str "read")) (pCons (pTup (pCons (pTup (pCons (pTup (pCons (pC (.str "unpartable")) (pCons (pTup (pCons (pC (.int 0)) (pCons (pC (.int 1)) pNil))) pNil))) (pCons (pTup (pCons (pC (.str "line")) pNil)) pNil))) pNil)) pNil))))))
def T_law_14 : PSF := (sSeq (sFor (iSeq (pVar 14)) (gN 12) (sIf (pTst (pBin oNe (pApp F__law_m_read 1 (pCons (pVar 12) pNil)) (pLst (pCons (pC (.str "bad")) (pCons (pC (.bl true)) pNil))))) (sRet (pC (.bl false))) sNop)) T_law_15)
def T_law_13 : PSF := (sSeq (sSet 14 (pBin oAdd (pVar 14) (pLst (pCons (pC (.str "(unpartable (0 1)) by (lines)\n")) (pCons (pC (.str " by \n")) (pCons (pC (.str "(unpartable (0 1)) by (line) by (line)\n")) pNil)))))) T_law_14)
def T_law_12 : PSF := (sSeq (sSet 14 (pLst (pCons (pC (.str "\n")) (pCons (pC (.str "1 by 2\n")) (pCons (pC (.str "(unpartable (0 1)) by (line)")) (pCons (pC (.str "(unpartable (0 1)) (line)\n")) (pCons (pC (.str "(unpartable (0 2)) by (line)\n")) pNil))))))) T_law_13)
def T_law_11 : PSF := (sSeq (sFor (iR1 (pCons (pC (.int 10)) pNil)) (gN 8) (sSeq (sSet 10 (pApp F__law_pick 2 (pCons (pVar 1) (pCons (pBin oAdd (pCall oLen (pCons (pVar 9) pNil)) (pC (.int 1))) pNil))))
  (sSeq (sSet 11 (pBin oIx (pLst (pCons (pC (.str "(")) (pCons (pC (.str ")")) (pCons (pC (.str " ")) (pCons (pC (.str "0")) (pCons (pC (.str "7")) (pCons (pC (.str "-")) (pCons (pC (.str "a")) (pCons (pC (.str ".")) (pCons (pC (.str "by")) (pCons (pC (.str "\n")) pNil))))))))))) (pApp F__law_pick 2 (pCons (pVar 1) (pCons (pC (.int 10)) pNil)))))
  (sFor (iSeq (pTup (pCons (pBin oAdd (pBin oAdd (pSl (pVar 9) pNoPart (pPart (pVar 10))) (pVar 11)) (pSl (pVar 9) (pPart (pVar 10)) pNoPart)) (pCons (pBin oAdd (pBin oAdd (pSl (pVar 9) pNoPart (pPart (pVar 10))) (pVar 11)) (pSl (pVar 9) (pPart (pBin oAdd (pVar 10) (pC (.int 1)))) pNoPart)) (pCons (pBin oAdd (pSl (pVar 9) pNoPart (pPart (pVar 10))) (pSl (pVar 9) (pPart (pBin oAdd (pVar 10) (pC (.int 1)))) pNoPart)) pNil))))) (gN 12) (sSeq (sSet 13 (pApp F__law_m_read 1 (pCons (pVar 12) pNil)))
  (sIf (pOrT (pAndT (pTst (pBin oEq (pBin oIx (pVar 13) (pC (.int 0))) (pC (.str "read")))) (pOrT (pTst (pBin oNe (pApp F__law_m_proof_text 1 (pCons (pBin oIx (pVar 13) (pC (.int 1))) pNil)) (pVar 12))) (pNotT (pTru (pApp F_is_proof 1 (pCons (pBin oIx (pVar 13) (pC (.int 1))) pNil)))))) (pAndT (pTst (pBin oEq (pBin oIx (pVar 13) (pC (.int 0))) (pC (.str "bad")))) (pTst (pBin oIsNot (pBin oIx (pVar 13) (pC (.int 1))) (pC (.bl true)))))) (sRet (pC (.bl false))) sNop)))))) T_law_12)
def T_law_10 : PSF := (sSeq (sIf (pOrT (pTst (pBin oNe (pApp F_write_proof 1 (pCons (pVar 7) pNil)) (pVar 9))) (pNotT (pTru (pApp (F__law_equal (20)) 2 (pCons (pApp F__law_m_read 1 (pCons (pVar 9) pNil)) (pCons (pLst (pCons (pC (.str "read")) (pCons (pVar 7) pNil))) pNil)))))) (sRet (pC (.bl false))) sNop) T_law_11)
def T_law_9 : PSF := (sSeq (sSet 9 (pApp F__law_m_proof_text 1 (pCons (pVar 7) pNil))) T_law_10)
def T_law_8 : PSF := (sSeq (sFor (iR1 (pCons (pApp F__law_pick 2 (pCons (pVar 1) (pCons (pC (.int 4)) pNil))) pNil)) (gN 8) (sSet 7 (pBin oAdd (pVar 7) (pTup (pCons (pBin oIx (pVar 6) (pApp F__law_pick 2 (pCons (pVar 1) (pCons (pCall oLen (pCons (pVar 6) pNil)) pNil)))) pNil))))) T_law_9)
def T_law_7 : PSF := (sSeq (sSet 7 (pSl (pVar 2) pNoPart (pPart (pApp F__law_pick 2 (pCons (pVar 1) (pCons (pC (.int 4)) pNil)))))) T_law_8)
def T_law_6 : PSF := (sSeq (sSet 6 (pBin oAdd (pVar 6) (pLst (pCons (pTup (pCons (pBin oAdd (pBin oAdd (pTup (pCons (pC (.str "count")) pNil)) (pVar 3)) (pTup (pCons (pC (.int 1)) pNil))) (pCons (pTup (pCons (pC (.str "joined")) (pCons (pC (.int 0)) (pCons (pC (.int 1)) pNil)))) pNil))) pNil)))) T_law_7)
def T_law_5 : PSF := (sSeq (sSet 6 (pBin oAdd (pVar 6) (pLst (pCons (pTup (pCons (pTup (pCons (pC (.str "parts")) (pCons (pVar 5) (pCons (pUn oNeg (pC (.int 1))) (pCons (pTup (pCons (pTup (pCons (pVar 5) (pCons (pC (.int 2)) pNil))) pNil)) pNil))))) (pCons (pTup (pCons (pC (.str "product")) (pCons (pTup (pCons (pC (.int 0)) pNil)) pNil))) pNil))) (pCons (pTup (pCons (pTup (pCons (pC (.str "equal")) (pCons (pVar 3) (pCons (pVar 4) pNil)))) (pCons (pTup (pCons (pC (.str "same")) (pCons (pC (.int 2)) (pCons (pC (.int 3)) (pCons (pC (.int 1)) pNil))))) pNil))) (pCons (pTup (pCons (pTup (pCons (pC (.str "unpartable")) (pCons (pVar 5) pNil))) (pCons (pTup (pCons (pC (.str "moved")) (pCons (pC (.int 0)) (pCons (pTup (pCons (pC (.str "scale")) (pCons (pTup (pCons (pUn oNeg (pC (.int 1))) (pCons (pC (.int 2)) pNil))) pNil))) pNil)))) pNil))) pNil)))))) T_law_6)
def T_law_4 : PSF := (sSeq (sSet 6 (pLst (pCons (pTup (pCons (pTup (pCons (pC (.str "named")) (pCons (pVar 4) pNil))) (pCons (pTup (pCons (pC (.str "fraction")) pNil)) pNil))) (pCons (pTup (pCons (pTup (pCons (pC (.str "is")) (pCons (pVar 3) (pCons (pTup (pCons (pC (.str "root")) (pCons (pC (.int 2)) (pCons (pTup (pCons (pC (.str "name")) (pCons (pVar 4) pNil))) pNil)))) pNil)))) (pCons (pTup (pCons (pC (.str "made")) (pCons (pC (.int 2)) (pCons (pTup (pCons (pC (.int 3)) pNil)) (pCons (pC .non) pNil))))) pNil))) (pCons (pTup (pCons (pTup (pCons (pC (.str "unpartable")) (pCons (pVar 5) pNil))) (pCons (pTup (pCons (pC (.str "lots")) (pCons (pC (.int 3)) (pCons (pC (.int 2)) (pCons (pTup (pCons (pVar 5) (pCons (pTup (pCons (pC (.int 1)) (pCons (pC (.int 1)) pNil))) pNil))) pNil))))) pNil))) pNil))))) T_law_5)
def T_law_3 : PSF := (sSeq (sSet 5 (pApp F__law_m_plain_one 3 (pCons (pVar 1) (pCons (pC (.int 2)) (pCons (pC (.int 9)) pNil))))) T_law_4)
def T_law_2 : PSF := (sSeq (sPar [3, 4] (pCons (pBin oIx (pBin oIx (pBin oIx (pVar 2) (pC (.int 2))) (pC (.int 0))) (pC (.int 1))) (pCons (pApp F__law_m_ratio 1 (pCons (pApp F__law_m_drawn_f 1 (pCons (pVar 1) pNil)) pNil)) pNil))) T_law_3)
def T_law_1 : PSF := (sSeq (sSet 2 (pApp F__law_m_square_proof 1 (pCons (pBin oIx (pLst (pCons (pC (.int 2)) (pCons (pC (.int 3)) (pCons (pC (.int 5)) (pCons (pC (.int 6)) (pCons (pC (.int 7)) pNil)))))) (pApp F__law_pick 2 (pCons (pVar 1) (pCons (pC (.int 5)) pNil)))) pNil))) T_law_2)
def T_law_0 : PSF := (sSeq (sSet 1 (pApp F__law_pool 1 (pCons (pVar 0) pNil))) T_law_1)
theorem T_law_eq : B_law = T_law_0 := rfl
open NumText
def OB : PSF := (sSeq (sSet 10 (pApp F__law_pick 2 (pCons (pVar 1) (pCons (pBin oAdd (pCall oLen (pCons (pVar 9) pNil)) (pC (.int 1))) pNil))))
  (sSeq (sSet 11 (pBin oIx (pLst (pCons (pC (.str "(")) (pCons (pC (.str ")")) (pCons (pC (.str " ")) (pCons (pC (.str "0")) (pCons (pC (.str "7")) (pCons (pC (.str "-")) (pCons (pC (.str "a")) (pCons (pC (.str ".")) (pCons (pC (.str "by")) (pCons (pC (.str "\n")) pNil))))))))))) (pApp F__law_pick 2 (pCons (pVar 1) (pCons (pC (.int 10)) pNil)))))
  (sFor (iSeq (pTup (pCons (pBin oAdd (pBin oAdd (pSl (pVar 9) pNoPart (pPart (pVar 10))) (pVar 11)) (pSl (pVar 9) (pPart (pVar 10)) pNoPart)) (pCons (pBin oAdd (pBin oAdd (pSl (pVar 9) pNoPart (pPart (pVar 10))) (pVar 11)) (pSl (pVar 9) (pPart (pBin oAdd (pVar 10) (pC (.int 1)))) pNoPart)) (pCons (pBin oAdd (pSl (pVar 9) pNoPart (pPart (pVar 10))) (pSl (pVar 9) (pPart (pBin oAdd (pVar 10) (pC (.int 1)))) pNoPart)) pNil))))) (gN 12) LB)))
def SB : PSF := (sSet 7 (pBin oAdd (pVar 7) (pTup (pCons (pBin oIx (pVar 6) (pApp F__law_pick 2 (pCons (pVar 1) (pCons (pCall oLen (pCons (pVar 6) pNil)) pNil)))) pNil))))
def AB : PSF := (sIf (pTst (pBin oNe (pApp F__law_m_read 1 (pCons (pVar 12) pNil)) (pLst (pCons (pC (.str "bad")) (pCons (pC (.bl true)) pNil))))) (sRet (pC (.bl false))) sNop)
theorem texts_loop (a0 a1 a2 a3 a4 a5 a6 a7 a8 a9 a10 a11 a14 : Option D) : ∀ (ss : List Str) (z12 z13 : Option D) (m : Mem), (∀ s ∈ ss, s.length ≤ 990 ∧ ∀ c ∈ s.cps.toList, c < 1000) →
    wpS (loopF (gN 12) LB (ss.map D.str) [a0, a1, a2, a3, a4, a5, a6, a7, a8, a9, a10, a11, z12, z13, a14] m)
      (fun e m1 => (∃ z12 z13, e = [a0, a1, a2, a3, a4, a5, a6, a7, a8, a9, a10, a11, z12, z13, a14]) ∧ Keep m m1) (fun _ _ => False)
  | [], z7, z8, m, _ => by rw [List.map_nil, loopF_nil, wpS_nx]; exact ⟨⟨z7, z8, rfl⟩, Keep.refl m⟩
  | s :: ss, z7, z8, m, h => by
    obtain ⟨x, rfl⟩ := exSO s
    have hx := h (sO x) (by simp)
    rw [sO_len] at hx
    have hb := law_body x hx.1 hx.2 a0 a1 a2 a3 a4 a5 a6 a7 a8 a9 a10 a11 z8 a14 m
    rw [List.map_cons, loopF_cons, gN_app, inG_ok]
    refine wp_ctn ?_
    refine wpS.mono (show wpS (LB [a0, a1, a2, a3, a4, a5, a6, a7, a8, a9, a10, a11, some (.str (sO x)), z8, a14] m) _ _ from hb) ?_ (fun _ _ h => h.elim)
    rintro e m1 ⟨⟨z, rfl⟩, kp⟩
    refine (texts_loop a0 a1 a2 a3 a4 a5 a6 a7 a8 a9 a10 a11 a14 ss (some (.str (sO x))) z m1 (fun t ht => h t (List.mem_cons_of_mem _ ht))).mono ?_ (fun _ _ h => h)
    rintro e m2 ⟨he, kp2⟩
    exact ⟨he, kp.trans kp2⟩
theorem oSl_s (L : List Nat) (h : L.length ≤ 5000) (lo hi : Option Int) (m : Mem) : oSl (.str (sO L)) lo hi m = some (.str (cutS (sO L) lo hi)) := oSl_sO L lo hi m (by omega)
theorem atI_in {l : List D} {j : Int} (h0 : 0 ≤ j) (h : j < l.length) : ∃ x ∈ l, atI l j = some x := by
  obtain ⟨k, rfl⟩ := Int.eq_ofNat_of_zero_le h0
  have hk : k < l.length := by omega
  exact ⟨l[k], List.getElem_mem _, by rw [atI_of_nat, List.getElem?_eq_getElem hk]⟩
theorem outer_body {p : D} {T : List Nat} (hT : T.length ≤ 984) (hTc : ∀ c ∈ T, c < 1000) (a0 a2 a3 a4 a5 a6 a7 z8 z10 z11 z12 z13 a14 : Option D) (m : Mem) (q : Nat) (hq : Pool p q m) (hb : q + 2 < 100000) :
    wpS (OB [a0, some p, a2, a3, a4, a5, a6, a7, z8, some (.str (sO T)), z10, z11, z12, z13, a14] m)
      (fun e m1 => (∃ z10 z11 z12 z13, e = [a0, some p, a2, a3, a4, a5, a6, a7, z8, some (.str (sO T)), z10, z11, z12, z13, a14]) ∧ Pool p (q + 2) m1) (fun _ _ => False) := by
  have hTs : T.length ≤ SL := slLe (by omega)
  unfold OB
  simp [hTs]
  refine (wF_pick ((T.length : Int) + 1) hq (by omega) (by omega)).mono ?_
  rintro _ m1 ⟨⟨at_, rfl, _, _⟩, h1⟩
  simp
  refine (wF_pick 10 h1 (by omega) (by decide)).mono ?_
  rintro _ m2 ⟨⟨j, rfl, j0, j1⟩, h2⟩
  obtain ⟨x, hx, hat⟩ := atI_in (l := [D.str "(", .str ")", .str " ", .str "0", .str "7", .str "-", .str "a", .str ".", .str "by", .str "\n"]) j0 (by simpa using j1)
  obtain ⟨mk, rfl, hmk, hmc⟩ : ∃ s : Str, x = .str s ∧ s.length ≤ 2 ∧ ∀ c ∈ s.cps.toList, c < 1000 := by
    simp only [List.mem_cons, List.not_mem_nil, or_false] at hx
    rcases hx with rfl | rfl | rfl | rfl | rfl | rfl | rfl | rfl | rfl | rfl <;> exact ⟨_, rfl, by decide⟩
  obtain ⟨k, rfl⟩ := Int.eq_ofNat_of_zero_le (show 0 ≤ at_ by assumption)
  have hk : k ≤ T.length := by omega
  obtain ⟨mk, rfl⟩ := exSO mk
  rw [sO_len] at hmk
  have hmc : ∀ c ∈ mk, c < 1000 := hmc
  have sl := fun lo hi => oSl_sO T lo hi m2 (by omega)
  have t1 := cut_take T k
  have d1 := cut_drop T k
  have d2 := cut_drop T (k + 1)
  have e2 : ((k : Int) + 1) = ((k + 1 : Nat) : Int) := by omega
  rw [← e2] at d2
  have lt1 : (T.take k).length ≤ k := List.length_take_le ..
  have lt2 : (T.drop k).length = T.length - k := List.length_drop
  have lt3 : (T.drop (k + 1)).length = T.length - (k + 1) := List.length_drop
  have ct1 : ∀ c ∈ T.take k, c < 1000 := fun c h => hTc c (List.mem_of_mem_take h)
  have ct2 : ∀ c ∈ T.drop k, c < 1000 := fun c h => hTc c (List.mem_of_mem_drop h)
  have ct3 : ∀ c ∈ T.drop (k + 1), c < 1000 := fun c h => hTc c (List.mem_of_mem_drop h)
  generalize T.take k = A at t1 lt1 ct1
  generalize T.drop k = B at d1 lt2 ct2
  generalize T.drop (k + 1) = C at d2 lt3 ct3
  have ad1 := oAdd_s A mk m2 (by omega)
  have ad2 := oAdd_s (A ++ mk) B m2 (by simp; omega)
  have ad3 := oAdd_s (A ++ mk) C m2 (by simp; omega)
  have ad4 := oAdd_s A C m2 (by omega)
  simp only [oIx_lst, hat, lift1_s, wpE_ok, sl, t1, d1, d2, ad1, ad2, ad3, ad4]
  refine wpS.mono (texts_loop a0 (some p) a2 a3 a4 a5 a6 a7 z8 (some (.str (sO T))) (some (.int k)) (some (.str (sO mk))) a14 [sO (A ++ mk ++ B), sO (A ++ mk ++ C), sO (A ++ C)] z12 z13 m2 ?_) ?_ (fun _ _ h => h)
  · intro s hs
    simp only [List.mem_cons, List.not_mem_nil, or_false] at hs
    rcases hs with rfl | rfl | rfl
    · refine ⟨by rw [sO_len]; simp; omega, fun c hc => ?_⟩
      have hc : c ∈ A ++ mk ++ B := hc
      simp only [List.mem_append] at hc
      rcases hc with (h | h) | h
      · exact ct1 c h
      · exact hmc c h
      · exact ct2 c h
    · refine ⟨by rw [sO_len]; simp; omega, fun c hc => ?_⟩
      have hc : c ∈ A ++ mk ++ C := hc
      simp only [List.mem_append] at hc
      rcases hc with (h | h) | h
      · exact ct1 c h
      · exact hmc c h
      · exact ct3 c h
    · refine ⟨by rw [sO_len]; simp; omega, fun c hc => ?_⟩
      have hc : c ∈ A ++ C := hc
      simp only [List.mem_append] at hc
      rcases hc with h | h
      · exact ct1 c h
      · exact ct3 c h
  · rintro e m3 ⟨⟨y7, y8, rfl⟩, kp⟩
    exact ⟨⟨_, _, y7, y8, rfl⟩, h2.keep kp⟩
theorem outer_loop {p : D} {T : List Nat} (hT : T.length ≤ 984) (hTc : ∀ c ∈ T, c < 1000) (a0 a2 a3 a4 a5 a6 a7 a14 : Option D) : ∀ (ds : List D) (z8 z10 z11 z12 z13 : Option D) (m : Mem) (q : Nat), Pool p q m → q + 2 * ds.length < 100000 →
    wpS (loopF (gN 8) OB ds [a0, some p, a2, a3, a4, a5, a6, a7, z8, some (.str (sO T)), z10, z11, z12, z13, a14] m)
      (fun e m1 => (∃ z8 z10 z11 z12 z13, e = [a0, some p, a2, a3, a4, a5, a6, a7, z8, some (.str (sO T)), z10, z11, z12, z13, a14]) ∧ Pool p (q + 2 * ds.length) m1) (fun _ _ => False)
  | [], z8, z10, z11, z12, z13, m, q, hq, _ => by rw [loopF_nil, wpS_nx]; exact ⟨⟨z8, z10, z11, z12, z13, rfl⟩, hq⟩
  | d :: ds, z8, z10, z11, z12, z13, m, q, hq, hb => by
    rw [List.length_cons] at hb
    rw [loopF_cons, gN_app, inG_ok]
    refine wp_ctn ?_
    refine wpS.mono (show wpS (OB [a0, some p, a2, a3, a4, a5, a6, a7, some d, some (.str (sO T)), z10, z11, z12, z13, a14] m) _ _ from outer_body hT hTc a0 a2 a3 a4 a5 a6 a7 (some d) z10 z11 z12 z13 a14 m q hq (by omega)) ?_ (fun _ _ h => h.elim)
    rintro e m1 ⟨⟨y5, y6, y7, y8, rfl⟩, h1⟩
    refine (outer_loop hT hTc a0 a2 a3 a4 a5 a6 a7 a14 ds (some d) y5 y6 y7 y8 m1 (q + 2) h1 (by omega)).mono ?_ (fun _ _ h => h)
    rintro e m2 ⟨he, h2⟩
    refine ⟨he, ?_⟩
    rw [List.length_cons, show q + 2 * (ds.length + 1) = q + 2 + 2 * ds.length by omega]
    exact h2
/-! the proof that is drawn -/
theorem add_loop {p : D} {more : List (D × D)} (hm : ∀ l ∈ more, Ln l) (hl : 0 < more.length) (hl2 : more.length ≤ 100) (a0 a2 a3 a4 a5 z9 a10 a11 a12 a13 a14 : Option D) : ∀ (ds : List D) (rs : List (D × D)) (z8 : Option D) (m : Mem) (q : Nat), Pool p q m → q + ds.length < 100000 → (∀ l ∈ rs, Ln l) → rs.length + ds.length ≤ 100 →
    wpS (loopF (gN 8) SB ds [a0, some p, a2, a3, a4, a5, some (.lst (more.map pairT)), some (.tup (rs.map pairT)), z8, z9, a10, a11, a12, a13, a14] m)
      (fun e m1 => ∃ (rs' : List (D × D)) (z8 : Option D), (∀ l ∈ rs', Ln l) ∧ rs'.length = rs.length + ds.length ∧ e = [a0, some p, a2, a3, a4, a5, some (.lst (more.map pairT)), some (.tup (rs'.map pairT)), z8, z9, a10, a11, a12, a13, a14] ∧ Pool p (q + ds.length) m1) (fun _ _ => False)
  | [], rs, z8, m, q, hq, _, hr, _ => by rw [loopF_nil, wpS_nx]; exact ⟨rs, z8, hr, rfl, rfl, hq⟩
  | d :: ds, rs, z8, m, q, hq, hb, hr, hn => by
    rw [List.length_cons] at hb hn
    rw [loopF_cons, gN_app, inG_ok]
    refine wp_ctn ?_
    have hll : more.length ≤ SL := slLe (by omega)
    have key : wpS (SB [a0, some p, a2, a3, a4, a5, some (.lst (more.map pairT)), some (.tup (rs.map pairT)), some d, z9, a10, a11, a12, a13, a14] m) (fun e m1 => ∃ l, Ln l ∧ e = [a0, some p, a2, a3, a4, a5, some (.lst (more.map pairT)), some (.tup ((rs ++ [l]).map pairT)), some d, z9, a10, a11, a12, a13, a14] ∧ Pool p (q + 1) m1) (fun _ _ => False) := by
      unfold SB
      simp [hll]
      refine (wF_pick (more.length : Int) hq (by omega) (by omega)).mono ?_
      rintro _ m1 ⟨⟨j, rfl, j0, j1⟩, h1⟩
      obtain ⟨x, hx, hat⟩ := atI_in (l := more.map pairT) j0 (by simpa using j1)
      obtain ⟨l, hl, rfl⟩ := List.mem_map.1 hx
      have hz : rs.length + 1 ≤ SL := slLe (by omega)
      have ha : oAdd (.tup (rs.map pairT)) (.tup [pairT l]) m1 = some (.tup (rs.map pairT ++ [pairT l])) := by
        show (if (rs.map pairT).length + [pairT l].length ≤ SL then _ else _) = _
        rw [if_pos (by simpa using hz)]
      simp [hat, ha, hz]
      exact ⟨l.1, l.2, hm l hl, by simp, h1⟩
    refine wpS.mono key ?_ (fun _ _ h => h.elim)
    rintro e m1 ⟨l, hln, rfl, h1⟩
    refine (add_loop hm hl hl2 a0 a2 a3 a4 a5 z9 a10 a11 a12 a13 a14 ds (rs ++ [l]) (some d) m1 (q + 1) h1 (by omega) (fun x hx => ?_) (by simp; omega)).mono ?_ (fun _ _ h => h)
    · rcases List.mem_append.1 hx with h | h
      · exact hr x h
      · rw [List.mem_singleton.1 h]; exact hln
    · rintro e m2 ⟨rs', z8, h2, h3, rfl, h4⟩
      refine ⟨rs', z8, h2, by rw [h3]; simp; omega, rfl, ?_⟩
      rw [List.length_cons, show q + (ds.length + 1) = q + 1 + ds.length by omega]
      exact h4
end Z

set_option maxRecDepth 100000
set_option maxHeartbeats 2000000
set_option autoImplicit false
namespace Z
open PySem PySem.Spec PyProof.Rows L2
open NumText
/-! the texts asked -/
def askL : List (List (List Nat) × List Nat) := [([[]], []), ([lineT ln2], []), ([], t3), ([t4], []), ([lineT ln5], []), ([lineT ln6], []), ([byL], []), ([t8], [])]
theorem ask_tb : ∀ x ∈ askL, TB x.1 x.2 := by
  intro x hx
  simp only [askL, List.mem_cons, List.not_mem_nil, or_false] at hx
  rcases hx with rfl | rfl | rfl | rfl | rfl | rfl | rfl | rfl
  · exact tb1
  · exact tb2
  · exact tb3
  · exact tb4
  · exact tb5
  · exact tb6
  · exact tb7
  · exact tb8
def askD (x : List (List Nat) × List Nat) : D := .str (sO (TL.joinL [10] (x.1 ++ [x.2])))
theorem ask_eq : askL.map askD = [.str "\n", .str "1 by 2\n", .str "(unpartable (0 1)) by (line)", .str "(unpartable (0 1)) (line)\n", .str "(unpartable (0 2)) by (line)\n", .str "(unpartable (0 1)) by (lines)\n", .str " by \n", .str "(unpartable (0 1)) by (line) by (line)\n"] := by rfl
theorem sim_at {m : Mem} {L : Nat} : ∀ (k n : Nat) (d : D), Ok (fun d => scaD d = true) L k d → L ≤ 1000000 → k < n → Sim m n d d := by
  intro k
  induction k with
  | zero =>
    intro n d hd hL hk
    obtain ⟨a, rfl⟩ : ∃ a, n = a + 1 := ⟨n - 1, by omega⟩
    cases d with
    | tup l => exact hd.elim
    | lst l => exact hd.elim
    | ro l => exact hd.elim
    | loc l => exact hd.elim
    | _ => exact .inl ⟨rfl, hd⟩
  | succ k ih =>
    intro n d hd hL hk
    obtain ⟨a, rfl⟩ : ∃ a, n = a + 1 := ⟨n - 1, by omega⟩
    cases d with
    | tup l =>
      refine .inr ⟨l, l, rfl, rfl, rfl, rfl, by have := hd.1; omega, fun i u v hu hv => ?_⟩
      rw [hu] at hv
      cases hv
      exact ih a u (hd.2 u (List.mem_of_getElem? hu)) hL (by omega)
    | lst l =>
      refine .inr ⟨l, l, rfl, rfl, rfl, rfl, by have := hd.1; omega, fun i u v hu hv => ?_⟩
      rw [hu] at hv
      cases hv
      exact ih a u (hd.2 u (List.mem_of_getElem? hu)) hL (by omega)
    | ro l => exact hd.elim
    | loc l => exact hd.elim
    | _ => exact .inl ⟨rfl, hd⟩
def Ax (d : D) : Prop := scaD d = true ∧ At d
theorem eq_self {n L : Nat} {l : List D} (h : Ok Ax L n (.lst l)) (hn : n ≤ 64) (m : Mem) : oEqB (.lst l) (.lst l) m = some true := by
  obtain ⟨p, h1, h2, h3⟩ := Ok.py (h.mono (fun _ h => h.2) (Nat.le_refl L) (Nat.le_refl n))
  show oEqD m (.lst l) (.lst l) = some true
  refine oEqD_refl (p := p) h1 ?_
  unfold SeqAt.shaped
  rw [h2, decide_eq_true (by omega)]
  rfl
theorem ne_self {n L : Nat} {l : List D} (h : Ok Ax L n (.lst l)) (hn : n ≤ 64) (m : Mem) : oNe (.lst l) (.lst l) m = some (.bl false) := by
  unfold oNe
  rw [eq_self h hn]
  rfl
theorem eqq_self {n L : Nat} {l : List D} (h : Ok Ax L n (.lst l)) (hn : n ≤ 64) (m : Mem) : oEq (.lst l) (.lst l) m = some (.bl true) := by
  unfold oEq
  rw [eq_self h hn]
  rfl
theorem badR_ok : Ok Ax 10 2 badR := by
  refine ⟨by simp, fun x hx => ?_⟩
  simp at hx
  rcases hx with rfl | rfl
  · exact Ok.str.2 ⟨rfl, strOk_of _⟩
  · exact Ok.bl.2 ⟨rfl, trivial⟩
theorem read0_ok : Ok Ax 10 2 (.lst [.str "read", .tup []]) := by
  refine ⟨by simp, fun x hx => ?_⟩
  simp at hx
  rcases hx with rfl | rfl
  · exact Ok.str.2 ⟨rfl, strOk_of _⟩
  · exact ⟨by simp, fun x hx => (List.not_mem_nil hx).elim⟩
theorem ask_loop (a0 a1 a2 a3 a4 a5 a6 a7 a8 a9 a10 a11 a13 a14 : Option D) : ∀ (xs : List (List (List Nat) × List Nat)) (z12 : Option D) (m : Mem), (∀ x ∈ xs, TB x.1 x.2) →
    wpS (loopF (gN 12) AB (xs.map askD) [a0, a1, a2, a3, a4, a5, a6, a7, a8, a9, a10, a11, z12, a13, a14] m)
      (fun e m1 => (∃ z12, e = [a0, a1, a2, a3, a4, a5, a6, a7, a8, a9, a10, a11, z12, a13, a14]) ∧ Keep m m1) (fun _ _ => False)
  | [], z12, m, _ => by rw [List.map_nil, loopF_nil, wpS_nx]; exact ⟨⟨z12, rfl⟩, Keep.refl m⟩
  | x :: xs, z12, m, h => by
    obtain ⟨h1, h2, h3, h4, h5⟩ := h x (by simp)
    rw [List.map_cons, loopF_cons, gN_app, inG_ok]
    refine wp_ctn ?_
    have key : wpS (AB [a0, a1, a2, a3, a4, a5, a6, a7, a8, a9, a10, a11, some (askD x), a13, a14] m) (fun e m1 => e = [a0, a1, a2, a3, a4, a5, a6, a7, a8, a9, a10, a11, some (askD x), a13, a14] ∧ Keep m m1) (fun _ _ => False) := by
      unfold AB askD
      simp
      refine (wF_m_read x.1 x.2 m h2 h3 h4 h5).mono ?_
      rintro d m1 ⟨rfl, kp, _⟩
      have e1 : readD x.1 x.2 = badR := by unfold readD; rw [h1]
      have e2 : oNe badR (.lst [.str "bad", .bl true]) m1 = some (.bl false) := ne_self badR_ok (by decide) m1
      simp [e1, e2, kp]
    refine wpS.mono key ?_ (fun _ _ h => h.elim)
    rintro e m1 ⟨rfl, kp⟩
    refine (ask_loop a0 a1 a2 a3 a4 a5 a6 a7 a8 a9 a10 a11 a13 a14 xs (some (askD x)) m1 (fun y hy => h y (List.mem_cons_of_mem _ hy))).mono ?_ (fun _ _ h => h)
    rintro e m2 ⟨he, kp2⟩
    exact ⟨he, kp.trans kp2⟩
theorem gw_at : ∀ {n : Nat} {d : D}, Gw n d → (textL d).length ≤ 999 → Ok (fun d => scaD d = true) 1000 n d
  | 0, .tup l, h, _ => h.elim
  | n + 1, .tup l, h, hl => by
    have hw := wt_tup l
    exact ⟨by have := len_wt l; omega, fun d hd => gw_at (h d hd) (by have := mem_wt hd; omega)⟩
  | 0, .non, _, _ => rfl
  | n + 1, .non, _, _ => rfl
  | 0, .int i, _, _ => rfl
  | n + 1, .int i, _, _ => rfl
  | 0, .str s, _, _ => rfl
  | n + 1, .str s, _, _ => rfl
  | 0, .bl _, h, _ => h.elim
  | n + 1, .bl _, h, _ => h.elim
  | 0, .lst _, h, _ => h.elim
  | n + 1, .lst _, h, _ => h.elim
  | 0, .ro _, h, _ => h.elim
  | n + 1, .ro _, h, _ => h.elim
  | 0, .loc _, h, _ => h.elim
  | n + 1, .loc _, h, _ => h.elim
def ln9 : D × D := (.tup [.str "unpartable", .tup [.int 0, .int 1]], .tup [.str "line"])
theorem ln9_ok : Ok Ax 10 6 (.lst [.str "read", .tup [pairT ln9]]) := by
  refine ⟨by decide, fun x hx => ?_⟩
  simp only [List.mem_cons, List.not_mem_nil, or_false] at hx
  rcases hx with rfl | rfl
  · exact Ok.str.2 ⟨rfl, strOk_of _⟩
  · refine ⟨by decide, fun x hx => ?_⟩
    obtain rfl := List.mem_singleton.1 hx
    refine ⟨by decide, fun x hx => ?_⟩
    simp only [ln9, List.mem_cons, List.not_mem_nil, or_false] at hx
    rcases hx with rfl | rfl
    · refine ⟨by decide, fun x hx => ?_⟩
      simp only [List.mem_cons, List.not_mem_nil, or_false] at hx
      rcases hx with rfl | rfl
      · exact Ok.str.2 ⟨rfl, strOk_of _⟩
      · refine ⟨by decide, fun x hx => ?_⟩
        simp only [List.mem_cons, List.not_mem_nil, or_false] at hx
        rcases hx with rfl | rfl <;> exact Ok.int.2 ⟨rfl, trivial⟩
    · refine ⟨by decide, fun x hx => ?_⟩
      obtain rfl := List.mem_singleton.1 hx
      exact Ok.str.2 ⟨rfl, strOk_of _⟩
theorem law_end (a0 a1 a2 a3 a4 a5 a6 a7 a8 a9 a10 a11 a12 a13 a14 : Option D) (m : Mem) : wpS (T_law_15 [a0, a1, a2, a3, a4, a5, a6, a7, a8, a9, a10, a11, a12, a13, a14] m) (fun _ _ => False) (fun d _ => d = .bl true) := by
  have r1 := wF_m_read [] [] m (by decide) (by decide) (by decide) (by decide)
  have e1 : (.str "" : D) = .str (sO (TL.joinL [10] ([] ++ [[]]))) := rfl
  rw [← e1] at r1
  obtain ⟨d1, m1, h1, rfl, _⟩ := r1.out
  have q1 : readD [] [] = .lst [.str "read", .tup []] := by
    have : readP [] [] = some [] := rfl
    unfold readD; rw [this]; rfl
  rw [q1] at h1
  have hg : gwP ln9 := gw_ln rfl rfl
  have r2 := wF_m_read [lineT ln9] [] m1 (by decide) (by decide) (by decide) (by decide)
  have e2 : (.str "(unpartable (0 1)) by (line)\n" : D) = .str (sO (TL.joinL [10] ([lineT ln9] ++ [[]]))) := rfl
  rw [← e2] at r2
  obtain ⟨d2, m2, h2, rfl, _⟩ := r2.out
  have q2 : readD [lineT ln9] [] = .lst [.str "read", .tup [pairT ln9]] := by
    have : readP [lineT ln9] [] = some [ln9] := readP_text (rs := [ln9]) (fun p hp => by rw [List.mem_singleton.1 hp]; exact hg) (by decide)
    unfold readD; rw [this]; rfl
  rw [q2] at h2
  have o1 : oEq (.lst [.str "read", .tup []]) (.lst [.str "read", .tup []]) m1 = some (.bl true) := eqq_self read0_ok (by decide) m1
  have o2 : oEq (.lst [.str "read", .tup [pairT ln9]]) (.lst [.str "read", .tup [.tup [.tup [.str "unpartable", .tup [.int 0, .int 1]], .tup [.str "line"]]]]) m2 = some (.bl true) := eqq_self ln9_ok (by decide) m2
  simp [T_law_15, h1, o1, h2, o2]
theorem law_proof {p : D} {rs : List (D × D)} (hr : ∀ l ∈ rs, Ln l) (hn : rs.length ≤ 6) (a0 a2 a3 a4 a5 a6 a8 : Option D) (m : Mem) (q : Nat) (hq : Pool p q m) (hb : q + 100 < 100000) :
    wpS (T_law_9 [a0, some p, a2, a3, a4, a5, a6, some (.tup (rs.map pairT)), a8, none, none, none, none, none, none] m) (fun _ _ => False) (fun d _ => d = .bl true) := by
  have hg : ∀ l ∈ rs, gwP l := fun l hl => (hr l hl).1
  have hlen : (textP rs).length ≤ 160 * rs.length := by
    clear hn hg
    induction rs with
    | nil => simp [textP]
    | cons l rs ih =>
      have e : textP (l :: rs) = (lineT l ++ [10]) ++ textP rs := by unfold textP; rw [List.flatMap_cons]
      have := (hr l (by simp)).2.1
      have := ih fun x hx => hr x (List.mem_cons_of_mem _ hx)
      rw [e]
      simp
      omega
  have hok : ∀ l ∈ rs, okP l := fun l hl => ⟨(gw_gv (hg l hl).1).vd.up (by decide), (gw_gv (hg l hl).2).vd.up (by decide), by have := (hr l hl).2.1; omega⟩
  have hall : rs.all lineOk = true := List.all_eq_true.2 fun l hl => (hr l hl).2.2
  have hsm : ∀ l ∈ rs, ∀ c ∈ lineT l, c < 1000 := fun l hl c hc => by
    unfold lineT at hc
    rcases List.mem_append.1 hc with h | h
    · exact (gw_tok (hg l hl).1).2.2.2 c h
    · rcases List.mem_append.1 h with h | h
      · have : ∀ c ∈ byL, c < 1000 := by decide
        exact this c h
      · exact (gw_tok (hg l hl).2).2.2.2 c h
  have hTc : ∀ c ∈ textP rs, c < 1000 := fun c hc => by
    unfold textP at hc
    obtain ⟨l, hl, hc⟩ := List.mem_flatMap.1 hc
    rcases List.mem_append.1 hc with h | h
    · exact hsm l hl c h
    · rw [List.mem_singleton.1 h]; decide
  simp [T_law_9]
  refine (wF_proof_text rs m hok (by omega) (by omega)).mono ?_
  rintro _ m1 ⟨rfl, rfl⟩
  simp [T_law_10]
  refine (wF_write_proof rs m1 hok (by omega) (by omega)).mono ?_
  rintro _ m2 ⟨rfl, rfl⟩
  simp [oNe_str]
  have r1 := wF_m_read (rs.map lineT) [] m2 (fun p hp => by
    rcases List.mem_append.1 hp with h | h
    · obtain ⟨l, hl, rfl⟩ := List.mem_map.1 h
      exact line_10 (hg l hl)
    · rw [List.mem_singleton.1 h]; simp) (by rw [← textP_join]; omega) (by rw [← textP_join]; exact hTc) (by simp; omega)
  rw [← textP_join] at r1
  refine r1.mono ?_
  rintro d m3 ⟨rfl, kp, _⟩
  have q1 : readD (rs.map lineT) [] = .lst [.str "read", .tup (rs.map pairT)] := by
    unfold readD; rw [readP_text hg hall]
  rw [q1]
  have h3 := hq.keep kp
  have hOk : Ok (fun d => scaD d = true) 1000 15 (.lst [.str "read", .tup (rs.map pairT)]) := by
    refine ⟨by simp, fun x hx => ?_⟩
    simp at hx
    rcases hx with rfl | rfl
    · exact Ok.str.2 rfl
    · refine ⟨by simp; omega, fun y hy => ?_⟩
      obtain ⟨l, hl, rfl⟩ := List.mem_map.1 hy
      have hll := (hr l hl).2.1
      have lp := line_parts (p := l)
      refine ⟨by simp, fun z hz => ?_⟩
      simp at hz
      rcases hz with rfl | rfl
      · exact gw_at (hg l hl).1 (by omega)
      · exact gw_at (hg l hl).2 (by omega)
  refine (wF_equal 20 _ _ (sim_at 15 20 _ hOk (by decide) (by decide))).mono ?_
  rintro _ m4 ⟨rfl, rfl⟩
  simp
  simp [T_law_11]
  refine wpS.mono (outer_loop (p := p) (T := textP rs) (by omega) hTc a0 a2 a3 a4 a5 a6 (some (.tup (rs.map pairT))) none (intR 0 1 10) a8 none none none none m4 q h3 (by have : (intR 0 1 10).length = 10 := rfl; omega)) ?_ (fun _ _ h => h.elim)
  rintro e m5 ⟨⟨z8, z10, z11, z12, z13, rfl⟩, h5⟩
  have s8 : 8 ≤ SL := slLe (by decide)
  simp [T_law_12]
  simp [T_law_13]
  simp [T_law_14]
  have L := ask_loop a0 (some p) a2 a3 a4 a5 a6 (some (.tup (rs.map pairT))) z8 (some (.str (sO (textP rs)))) z10 z11 z13 (some (.lst [.str "\n", .str "1 by 2\n", .str "(unpartable (0 1)) by (line)", .str "(unpartable (0 1)) (line)\n", .str "(unpartable (0 2)) by (line)\n", .str "(unpartable (0 1)) by (lines)\n", .str " by \n", .str "(unpartable (0 1)) by (line) by (line)\n"])) askL z12 m5 ask_tb
  unfold AB at L
  rw [ask_eq] at L
  refine wpS.mono L ?_ (fun _ _ h => h.elim)
  rintro e m6 ⟨⟨z12, rfl⟩, _⟩
  exact law_end _ _ _ _ _ _ _ _ _ _ _ _ _ _ _ m6
end Z

set_option maxRecDepth 100000
set_option maxHeartbeats 2000000
set_option autoImplicit false
namespace Z
open PySem PySem.Spec PyProof.Rows L2
open NumText
theorem wF_law (ns : List Int) (m : Mem) : wpE (F_law [.ro (ns.map D.int)] m) fun d _ => d = .bl true := by
  refine wp_fn ?_
  rw [T_law_eq]
  simp [T_law_0, startE]
  refine (wF_pool ns m).mono ?_
  rintro pl m0 h0
  simp [T_law_1]
  refine (wF_pick 5 h0 (by decide) (by decide)).mono ?_
  rintro _ m1 ⟨⟨j, rfl, j0, j1⟩, h1⟩
  obtain ⟨n, hat, hn⟩ : ∃ n : Int, atI [D.int 2, .int 3, .int 5, .int 6, .int 7] j = some (.int n) ∧ (n = 2 ∨ n = 3 ∨ n = 5 ∨ n = 6 ∨ n = 7) := by
    obtain ⟨x, hx, hat⟩ := atI_in (l := [D.int 2, .int 3, .int 5, .int 6, .int 7]) j0 (by simpa using j1)
    simp only [List.mem_cons, List.not_mem_nil, or_false] at hx
    rcases hx with rfl | rfl | rfl | rfl | rfl
    · exact ⟨2, hat, by omega⟩
    · exact ⟨3, hat, by omega⟩
    · exact ⟨5, hat, by omega⟩
    · exact ⟨6, hat, by omega⟩
    · exact ⟨7, hat, by omega⟩
  obtain ⟨x, pp, hsq, hb, hx0, hx1, hp0, hp1⟩ := wF_sq_proof hn m1
  have hnn : n.natAbs ≤ 7 := by omega
  have hsl := sq_ln hb hnn ⟨hx0, hx1⟩ ⟨hp0, hp1⟩
  have hb2 := hb
  unfold sqB at hb2
  rw [Bool.and_eq_true] at hb2
  have hX := hb2.2
  have hc : countD [sqF n, .tup [.int x, .int 1], .tup [.int (x + 1), .int 1], .int 1] = true := by
    have h := List.all_eq_true.1 hb2.1 _ (List.mem_of_getElem? (i := 1) (l := sqL n x pp) rfl)
    simp only [lineOk, Bool.and_eq_true] at h
    exact h.1
  simp [hat, hsq]
  have e2 : ∀ m, oIx (.tup ((sqL n x pp).map pairT)) (.int 2) m = some (pairT (.tup [.str "named", nmX n x], .tup [.str "stretch", .int 0, .int 1])) := fun m => rfl
  have e3 : ∀ (a b : D) m, oIx (pairT (a, b)) (.int 0) m = some a := fun a b m => rfl
  have e4 : ∀ (a b : D) m, oIx (.tup [a, b]) (.int 1) m = some b := fun a b m => rfl
  simp [T_law_2, e2, e3, e4]
  refine (wF_m_drawn_f h1 (by decide)).mono ?_
  rintro _ m2 ⟨r, rfl, hr, h2⟩
  refine (wF_m_ratio r m2).mono ?_
  rintro _ m3 ⟨rfl, rfl⟩
  simp [T_law_3]
  refine (wF_m_plain_one 2 9 h2 (by decide) (by decide) (by decide) (by decide) (by decide)).mono ?_
  rintro _ m4 ⟨f, rfl, tf, hfl, hpl, hbd, k4, hk4, h4⟩
  obtain ⟨a, b, c, rfl⟩ : ∃ a b c : Int, f = [a, b, c] := by
    rcases f with _ | ⟨a, _ | ⟨b, _ | ⟨c, _ | ⟨d, t⟩⟩⟩⟩
    · cases hfl
    · simp at hfl
    · simp at hfl
    · exact ⟨a, b, c, rfl⟩
    · simp at hfl
  have hF : plD (.tup [.int a, .int b, .int c]) = true := by
    unfold plD
    rw [show isPolyD (.tup [.int a, .int b, .int c]) = true from polyD_of tf, show polyI (.tup [.int a, .int b, .int c]) = some [a, b, c] from rfl]
    exact hpl
  have b0 := hbd 0
  have b1 := hbd 1
  have b2 := hbd 2
  have hml := more_ln (r := r) hX hF hc hr b0 b1 b2 hnn ⟨hx0, hx1⟩
  have o1 : ∀ m, oAdd (.tup [.str "count"]) (nmX n x) m = some (.tup [.str "count", sqF n, .tup [.int x, .int 1], .tup [.int (x + 1), .int 1]]) := fun m => rfl
  have o2 : ∀ m, oAdd (.tup [.str "count", sqF n, .tup [.int x, .int 1], .tup [.int (x + 1), .int 1]]) (.tup [.int 1]) m = some (.tup [.str "count", sqF n, .tup [.int x, .int 1], .tup [.int (x + 1), .int 1], .int 1]) := fun m => rfl
  simp [T_law_4, oNeg]
  simp [T_law_5, oNeg]
  simp [T_law_6, o1, o2]
  show wpS (T_law_7 [some (D.ro (ns.map D.int)), some pl, some (D.tup ((sqL n x pp).map pairT)), some (nmX n x), some (nmR r), some (.tup [.int a, .int b, .int c]), some (.lst ((moreL (nmX n x) (nmR r) (.tup [.int a, .int b, .int c]) x n).map pairT)), none, none, none, none, none, none, none, none] m4) (fun _ _ => False) fun d _ => d = .bl true
  have hmlen : (moreL (nmX n x) (nmR r) (.tup [.int a, .int b, .int c]) x n).length = 7 := rfl
  generalize moreL (nmX n x) (nmR r) (.tup [.int a, .int b, .int c]) x n = more at hml hmlen
  have hqlen : (sqL n x pp).length = 3 := rfl
  generalize sqL n x pp = sq at hsl hqlen
  simp [T_law_7, pPart, pNoPart]
  refine (wF_pick 4 h4 (by omega) (by decide)).mono ?_
  rintro _ m5 ⟨⟨k, rfl, k0, k1⟩, h5⟩
  obtain ⟨k, rfl⟩ := Int.eq_ofNat_of_zero_le k0
  have hcut := cutD_take (sq.map pairT) k
  have hs1 : ∀ m, oSl (.tup (sq.map pairT)) none (some (k : Int)) m = some (.tup ((sq.take k).map pairT)) := fun m => by
    rw [oSl_tup, hcut, List.map_take]
  simp [hs1]
  have ht : ∀ l ∈ sq.take k, Ln l := fun l hl => hsl l (List.mem_of_mem_take hl)
  have htl : (sq.take k).length ≤ 3 := by rw [List.length_take]; omega
  rw [← List.map_take]
  generalize sq.take k = rs0 at ht htl
  simp [T_law_8]
  refine (wF_pick 4 h5 (by omega) (by decide)).mono ?_
  rintro _ m6 ⟨⟨j2, rfl, j20, j21⟩, h6⟩
  obtain ⟨j2, rfl⟩ := Int.eq_ofNat_of_zero_le j20
  have c1 : (j2 : Int) ≤ 1000000000 := by omega
  have c2 : -1000000000 ≤ (j2 : Int) := by omega
  have hlen : (intR 0 1 j2).length = j2 := by simp [intR_rng, rng_len]
  simp [c1, c2]
  have L := add_loop (p := pl) (more := more) hml (by omega) (by omega) (some (D.ro (ns.map D.int))) (some (D.tup (sq.map pairT))) (some (nmX n x)) (some (nmR r)) (some (.tup [.int a, .int b, .int c])) none none none none none none (intR 0 1 j2) rs0 none m6 _ h6 (by omega) ht (by omega)
  unfold SB at L
  refine wpS.mono L ?_ (fun _ _ h => h.elim)
  rintro e m7 ⟨rs', z8, q1, q2, rfl, q3⟩
  exact law_proof q1 (by omega) _ _ _ _ _ _ _ m7 _ q3 (by omega)
theorem law_true : ∀ ns : List Int, ns.length ≤ 63 → (∀ z ∈ ns, Builtin.Int.intBits z ≤ 1048576) → ∃ m, F_law [.ro (ns.map D.int)] [] = some (.ok (.bl true) m) := by
  intro ns _ _
  obtain ⟨d, m, h, rfl⟩ := (wF_law ns []).out
  exact ⟨m, h⟩
end Z

set_option maxRecDepth 100000
set_option maxHeartbeats 4000000
namespace Z
open PySem PySem.Spec PyProof.Rows L2
def dd_is_int : He.DefD := ⟨("is_int", none), "is_int", "is_int", defArgs (topS 5), defBody (topS 5), defScope (topS 5), [], []⟩
def dd_common : He.DefD := ⟨("common", none), "common", "common", defArgs (topS 6), defBody (topS 6), defScope (topS 6), [], []⟩
def dd_common_of : He.DefD := ⟨("common_of", none), "common_of", "common_of", defArgs (topS 7), defBody (topS 7), defScope (topS 7), [], []⟩
def dd_is_fraction : He.DefD := ⟨("is_fraction", none), "is_fraction", "is_fraction", defArgs (topS 10), defBody (topS 10), defScope (topS 10), [], []⟩
def dd_below : He.DefD := ⟨("below", none), "below", "below", defArgs (topS 11), defBody (topS 11), defScope (topS 11), [], []⟩
def dd_read_whole : He.DefD := ⟨("read_whole", none), "read_whole", "read_whole", defArgs (topS 12), defBody (topS 12), defScope (topS 12), [], []⟩
def dd_is_polynomial : He.DefD := ⟨("is_polynomial", none), "is_polynomial", "is_polynomial", defArgs (topS 14), defBody (topS 14), defScope (topS 14), [], []⟩
def dd_content : He.DefD := ⟨("content", none), "content", "content", defArgs (topS 15), defBody (topS 15), defScope (topS 15), [], []⟩
def dd_is_plain : He.DefD := ⟨("is_plain", none), "is_plain", "is_plain", defArgs (topS 16), defBody (topS 16), defScope (topS 16), [], []⟩
def dd_is_name : He.DefD := ⟨("is_name", none), "is_name", "is_name", defArgs (topS 18), defBody (topS 18), defScope (topS 18), [], []⟩
def dd_is_tree : He.DefD := ⟨("is_tree", none), "is_tree", "is_tree", defArgs (topS 19), defBody (topS 19), defScope (topS 19), [], []⟩
def dd_is_parts : He.DefD := ⟨("is_parts", none), "is_parts", "is_parts", defArgs (topS 20), defBody (topS 20), defScope (topS 20), [], []⟩
def dd_is_count : He.DefD := ⟨("is_count", none), "is_count", "is_count", defArgs (topS 22), defBody (topS 22), defScope (topS 22), [], []⟩
def dd_is_statement : He.DefD := ⟨("is_statement", none), "is_statement", "is_statement", defArgs (topS 21), defBody (topS 21), defScope (topS 21), [], []⟩
def dd_is_places : He.DefD := ⟨("is_places", none), "is_places", "is_places", defArgs (topS 23), defBody (topS 23), defScope (topS 23), [], []⟩
def dd_is_split : He.DefD := ⟨("is_split", none), "is_split", "is_split", defArgs (topS 26), defBody (topS 26), defScope (topS 26), [], []⟩
def dd_is_move : He.DefD := ⟨("is_move", none), "is_move", "is_move", defArgs (topS 27), defBody (topS 27), defScope (topS 27), [], []⟩
def dd_is_made : He.DefD := ⟨("is_made", none), "is_made", "is_made", defArgs (topS 28), defBody (topS 28), defScope (topS 28), [], []⟩
def dd_is_reason : He.DefD := ⟨("is_reason", none), "is_reason", "is_reason", defArgs (topS 25), defBody (topS 25), defScope (topS 25), [], []⟩
def dd_is_proof : He.DefD := ⟨("is_proof", none), "is_proof", "is_proof", defArgs (topS 29), defBody (topS 29), defScope (topS 29), [], []⟩
def dd_write_value : He.DefD := ⟨("write_value", none), "write_value", "write_value", defArgs (topS 33), defBody (topS 33), defScope (topS 33), [], []⟩
def dd_signs_of : He.DefD := ⟨("signs_of", none), "signs_of", "signs_of", defArgs (topS 34), defBody (topS 34), defScope (topS 34), [], []⟩
def dd_read_mark : He.DefD := ⟨("read_mark", none), "read_mark", "read_mark", defArgs (topS 36), defBody (topS 36), defScope (topS 36), [], []⟩
def dd_read_value : He.DefD := ⟨("read_value", none), "read_value", "read_value", defArgs (topS 35), defBody (topS 35), defScope (topS 35), [], []⟩
def dd_write_proof : He.DefD := ⟨("write_proof", none), "write_proof", "write_proof", defArgs (topS 37), defBody (topS 37), defScope (topS 37), [], []⟩
def dd_read_proof : He.DefD := ⟨("read_proof", none), "read_proof", "read_proof", defArgs (topS 38), defBody (topS 38), defScope (topS 38), [], []⟩
def dd__law_cell : He.DefD := ⟨("_law_cell", none), "_law_cell", "_law_cell", defArgs (topS 40), defBody (topS 40), defScope (topS 40), [], []⟩
def dd__law_draws : He.DefD := ⟨("_law_draws", none), "_law_draws", "_law_draws", defArgs (topS 41), defBody (topS 41), defScope (topS 41), [], []⟩
def dd__law_kind : He.DefD := ⟨("_law_kind", none), "_law_kind", "_law_kind", defArgs (topS 42), defBody (topS 42), defScope (topS 42), [], []⟩
def dd__law_equal : He.DefD := ⟨("_law_equal", none), "_law_equal", "_law_equal", defArgs (topS 43), defBody (topS 43), defScope (topS 43), [], []⟩
def dd__law_pool : He.DefD := ⟨("_law_pool", none), "_law_pool", "_law_pool", defArgs (topS 44), defBody (topS 44), defScope (topS 44), [], []⟩
def dd__law_pick : He.DefD := ⟨("_law_pick", none), "_law_pick", "_law_pick", defArgs (topS 45), defBody (topS 45), defScope (topS 45), [], []⟩
def dd__law_m_gcd : He.DefD := ⟨("_law_m_gcd", none), "_law_m_gcd", "_law_m_gcd", defArgs (topS 46), defBody (topS 46), defScope (topS 46), [], []⟩
def dd__law_m_f : He.DefD := ⟨("_law_m_f", none), "_law_m_f", "_law_m_f", defArgs (topS 47), defBody (topS 47), defScope (topS 47), [], []⟩
def dd__law_m_drawn_f : He.DefD := ⟨("_law_m_drawn_f", none), "_law_m_drawn_f", "_law_m_drawn_f", defArgs (topS 48), defBody (topS 48), defScope (topS 48), [], []⟩
def dd__law_m_trim : He.DefD := ⟨("_law_m_trim", none), "_law_m_trim", "_law_m_trim", defArgs (topS 49), defBody (topS 49), defScope (topS 49), [], []⟩
def dd__law_m_content : He.DefD := ⟨("_law_m_content", none), "_law_m_content", "_law_m_content", defArgs (topS 50), defBody (topS 50), defScope (topS 50), [], []⟩
def dd__law_m_plain : He.DefD := ⟨("_law_m_plain", none), "_law_m_plain", "_law_m_plain", defArgs (topS 51), defBody (topS 51), defScope (topS 51), [], []⟩
def dd__law_m_poly : He.DefD := ⟨("_law_m_poly", none), "_law_m_poly", "_law_m_poly", defArgs (topS 52), defBody (topS 52), defScope (topS 52), [], []⟩
def dd__law_m_plain_one : He.DefD := ⟨("_law_m_plain_one", none), "_law_m_plain_one", "_law_m_plain_one", defArgs (topS 53), defBody (topS 53), defScope (topS 53), [], []⟩
def dd__law_m_root : He.DefD := ⟨("_law_m_root", none), "_law_m_root", "_law_m_root", defArgs (topS 54), defBody (topS 54), defScope (topS 54), [], []⟩
def dd__law_m_ratio : He.DefD := ⟨("_law_m_ratio", none), "_law_m_ratio", "_law_m_ratio", defArgs (topS 55), defBody (topS 55), defScope (topS 55), [], []⟩
def dd__law_m_square : He.DefD := ⟨("_law_m_square", none), "_law_m_square", "_law_m_square", defArgs (topS 56), defBody (topS 56), defScope (topS 56), [], []⟩
def dd__law_m_square_proof : He.DefD := ⟨("_law_m_square_proof", none), "_law_m_square_proof", "_law_m_square_proof", defArgs (topS 57), defBody (topS 57), defScope (topS 57), [], []⟩
def dd__law_m_text : He.DefD := ⟨("_law_m_text", none), "_law_m_text", "_law_m_text", defArgs (topS 58), defBody (topS 58), defScope (topS 58), [], []⟩
def dd__law_m_proof_text : He.DefD := ⟨("_law_m_proof_text", none), "_law_m_proof_text", "_law_m_proof_text", defArgs (topS 59), defBody (topS 59), defScope (topS 59), [], []⟩
def dd__law_m_read : He.DefD := ⟨("_law_m_read", none), "_law_m_read", "_law_m_read", defArgs (topS 60), defBody (topS 60), defScope (topS 60), [], []⟩
def dd_law : He.DefD := ⟨("law", none), "law", "law", defArgs (topS 61), defBody (topS 61), defScope (topS 61), [], []⟩
def fnL : List He.DefD := [dd_is_int, dd_common, dd_common_of, dd_is_fraction, dd_below, dd_read_whole, dd_is_polynomial, dd_content, dd_is_plain, dd_is_name, dd_is_tree, dd_is_parts, dd_is_count, dd_is_statement, dd_is_places, dd_is_split, dd_is_move, dd_is_made, dd_is_reason, dd_is_proof, dd_write_value, dd_signs_of, dd_read_mark, dd_read_value, dd_write_proof, dd_read_proof, dd__law_cell, dd__law_draws, dd__law_kind, dd__law_equal, dd__law_pool, dd__law_pick, dd__law_m_gcd, dd__law_m_f, dd__law_m_drawn_f, dd__law_m_trim, dd__law_m_content, dd__law_m_plain, dd__law_m_poly, dd__law_m_plain_one, dd__law_m_root, dd__law_m_ratio, dd__law_m_square, dd__law_m_square_proof, dd__law_m_text, dd__law_m_proof_text, dd__law_m_read, dd_law]
def faL : List He.Fa := [.glo "is_int", .glo "common", .glo "common_of", .glo "is_fraction", .glo "below", .glo "read_whole", .glo "is_polynomial", .glo "content", .glo "is_plain", .glo "is_name", .glo "is_tree", .glo "is_parts", .glo "is_count", .glo "is_statement", .glo "is_places", .glo "is_split", .glo "is_move", .glo "is_made", .glo "is_reason", .glo "is_proof", .glo "write_value", .glo "signs_of", .glo "read_mark", .glo "read_value", .glo "write_proof", .glo "read_proof", .glo "_law_cell", .glo "_law_draws", .glo "_law_kind", .glo "_law_equal", .glo "_law_pool", .glo "_law_pick", .glo "_law_m_gcd", .glo "_law_m_f", .glo "_law_m_drawn_f", .glo "_law_m_trim", .glo "_law_m_content", .glo "_law_m_plain", .glo "_law_m_poly", .glo "_law_m_plain_one", .glo "_law_m_root", .glo "_law_m_ratio", .glo "_law_m_square", .glo "_law_m_square_proof", .glo "_law_m_text", .glo "_law_m_proof_text", .glo "_law_m_read", .glo "law", .free "abs", .free "all", .free "bool", .free "dict", .free "int", .free "isinstance", .free "len", .free "list", .free "max", .free "min", .free "range", .free "str", .free "tuple", .glo "COUNTS", .int "DEEP" 60, .str "DIGITS" "0123456789", .str "LETTERS" "abcdefghijklmnopqrstuvwxyz", .glo "BadText", .glo "NotAProof", .glo "PartsError", .exc "BadText", .exc "NotAProof", .exm "BadText" "PartsError" true, .exm "NotAProof" "PartsError" true]
def exL (K : PySem.W.Frag) : Bool := keysB K (He.ga K "COUNTS") (C_COUNTS.map (·.1)) && He.valsB K (He.ga K "COUNTS") (C_COUNTS.map fun kv => (kv.1, He.Dv.int kv.2)) && (excQB K "BadText" "BadText" true && (excQB K "BadText" "NotAProof" false && (excQB K "NotAProof" "BadText" false && (excQB K "NotAProof" "NotAProof" true))))
def tsL : List He.Tab := [(fun K => He.ga K "COUNTS", C_COUNTS.map (·.1))]
def loose0 : List Str := ["PartsError", "BadText", "NotAProof", "is_int", "common", "common_of", "DIGITS", "is_fraction", "below", "read_whole", "is_polynomial", "content", "is_plain", "is_name", "is_tree", "is_parts", "is_statement", "is_count", "is_places", "COUNTS", "is_reason", "is_split", "is_move", "is_made", "is_proof", "LETTERS", "DEEP", "write_value", "signs_of", "read_value"]
def loose1 : List Str := ["read_mark", "write_proof", "read_proof", "_law_cell", "_law_draws", "_law_kind", "_law_equal", "_law_pool", "_law_pick", "_law_m_gcd", "_law_m_f", "_law_m_drawn_f", "_law_m_trim", "_law_m_content", "_law_m_plain", "_law_m_poly", "_law_m_plain_one", "_law_m_root", "_law_m_ratio", "_law_m_square", "_law_m_square_proof", "_law_m_text", "_law_m_proof_text", "_law_m_read"]
def looseL : List Str := loose0 ++ loose1
abbrev RR : PySem.W.OpenRow := PySem.W.OpenLaw.row PySem.Challenge.rw_partsproved_k71_texts_of_proofs
abbrev hkL : PySem.W.Hook := He.hookX 4 faL fnL tsL [] exL
def obL (s : PySem.W.SharedT) : He.AlX := He.obsX 4 faL fnL tsL [] exL (HandSHeadRun.getT s)
theorem obL_eq (s : PySem.W.SharedT) : obL s = hkL.obs s.abs := He.obsX_eq (HandSHeadRun.getT_eq s)
theorem runL (w : World) : HandSHeadRun.RunEq RR (PySem.W.view RR.prog [61]) hkL obL 20000 looseL w :=
  PySem.W.byRow2 "special-get-raises" (P := fun w => HandSHeadRun.RunEq RR (PySem.W.view RR.prog [61]) hkL obL 20000 looseL w) (fun w => by intro os; kernel_rfl) (fun w => by intro os; kernel_rfl) w
theorem txtL {w : World} {K : PySem.W.Frag} {h : Heap} {mg : Str → Option Value} (X : K.In h) (G : h.Ns mainGlobals mg) (c : He.SaysD faL fnL K) (ex : exL K = true) (tb0 : ∃ es n, KDict K w (He.ga K "COUNTS") es n) : Txt w K mg where
  d_is_int := ⟨_, _, (c.def_ 0 (d := dd_is_int) rfl).choose_spec, He.glo_ok X G (c.fact 0 (f := .glo "is_int") rfl)⟩
  d_common := ⟨_, _, (c.def_ 1 (d := dd_common) rfl).choose_spec, He.glo_ok X G (c.fact 1 (f := .glo "common") rfl)⟩
  d_common_of := ⟨_, _, (c.def_ 2 (d := dd_common_of) rfl).choose_spec, He.glo_ok X G (c.fact 2 (f := .glo "common_of") rfl)⟩
  d_is_fraction := ⟨_, _, (c.def_ 3 (d := dd_is_fraction) rfl).choose_spec, He.glo_ok X G (c.fact 3 (f := .glo "is_fraction") rfl)⟩
  d_below := ⟨_, _, (c.def_ 4 (d := dd_below) rfl).choose_spec, He.glo_ok X G (c.fact 4 (f := .glo "below") rfl)⟩
  d_read_whole := ⟨_, _, (c.def_ 5 (d := dd_read_whole) rfl).choose_spec, He.glo_ok X G (c.fact 5 (f := .glo "read_whole") rfl)⟩
  d_is_polynomial := ⟨_, _, (c.def_ 6 (d := dd_is_polynomial) rfl).choose_spec, He.glo_ok X G (c.fact 6 (f := .glo "is_polynomial") rfl)⟩
  d_content := ⟨_, _, (c.def_ 7 (d := dd_content) rfl).choose_spec, He.glo_ok X G (c.fact 7 (f := .glo "content") rfl)⟩
  d_is_plain := ⟨_, _, (c.def_ 8 (d := dd_is_plain) rfl).choose_spec, He.glo_ok X G (c.fact 8 (f := .glo "is_plain") rfl)⟩
  d_is_name := ⟨_, _, (c.def_ 9 (d := dd_is_name) rfl).choose_spec, He.glo_ok X G (c.fact 9 (f := .glo "is_name") rfl)⟩
  d_is_tree := ⟨_, _, (c.def_ 10 (d := dd_is_tree) rfl).choose_spec, He.glo_ok X G (c.fact 10 (f := .glo "is_tree") rfl)⟩
  d_is_parts := ⟨_, _, (c.def_ 11 (d := dd_is_parts) rfl).choose_spec, He.glo_ok X G (c.fact 11 (f := .glo "is_parts") rfl)⟩
  d_is_count := ⟨_, _, (c.def_ 12 (d := dd_is_count) rfl).choose_spec, He.glo_ok X G (c.fact 12 (f := .glo "is_count") rfl)⟩
  d_is_statement := ⟨_, _, (c.def_ 13 (d := dd_is_statement) rfl).choose_spec, He.glo_ok X G (c.fact 13 (f := .glo "is_statement") rfl)⟩
  d_is_places := ⟨_, _, (c.def_ 14 (d := dd_is_places) rfl).choose_spec, He.glo_ok X G (c.fact 14 (f := .glo "is_places") rfl)⟩
  d_is_split := ⟨_, _, (c.def_ 15 (d := dd_is_split) rfl).choose_spec, He.glo_ok X G (c.fact 15 (f := .glo "is_split") rfl)⟩
  d_is_move := ⟨_, _, (c.def_ 16 (d := dd_is_move) rfl).choose_spec, He.glo_ok X G (c.fact 16 (f := .glo "is_move") rfl)⟩
  d_is_made := ⟨_, _, (c.def_ 17 (d := dd_is_made) rfl).choose_spec, He.glo_ok X G (c.fact 17 (f := .glo "is_made") rfl)⟩
  d_is_reason := ⟨_, _, (c.def_ 18 (d := dd_is_reason) rfl).choose_spec, He.glo_ok X G (c.fact 18 (f := .glo "is_reason") rfl)⟩
  d_is_proof := ⟨_, _, (c.def_ 19 (d := dd_is_proof) rfl).choose_spec, He.glo_ok X G (c.fact 19 (f := .glo "is_proof") rfl)⟩
  d_write_value := ⟨_, _, (c.def_ 20 (d := dd_write_value) rfl).choose_spec, He.glo_ok X G (c.fact 20 (f := .glo "write_value") rfl)⟩
  d_signs_of := ⟨_, _, (c.def_ 21 (d := dd_signs_of) rfl).choose_spec, He.glo_ok X G (c.fact 21 (f := .glo "signs_of") rfl)⟩
  d_read_mark := ⟨_, _, (c.def_ 22 (d := dd_read_mark) rfl).choose_spec, He.glo_ok X G (c.fact 22 (f := .glo "read_mark") rfl)⟩
  d_read_value := ⟨_, _, (c.def_ 23 (d := dd_read_value) rfl).choose_spec, He.glo_ok X G (c.fact 23 (f := .glo "read_value") rfl)⟩
  d_write_proof := ⟨_, _, (c.def_ 24 (d := dd_write_proof) rfl).choose_spec, He.glo_ok X G (c.fact 24 (f := .glo "write_proof") rfl)⟩
  d_read_proof := ⟨_, _, (c.def_ 25 (d := dd_read_proof) rfl).choose_spec, He.glo_ok X G (c.fact 25 (f := .glo "read_proof") rfl)⟩
  d__law_cell := ⟨_, _, (c.def_ 26 (d := dd__law_cell) rfl).choose_spec, He.glo_ok X G (c.fact 26 (f := .glo "_law_cell") rfl)⟩
  d__law_draws := ⟨_, _, (c.def_ 27 (d := dd__law_draws) rfl).choose_spec, He.glo_ok X G (c.fact 27 (f := .glo "_law_draws") rfl)⟩
  d__law_kind := ⟨_, _, (c.def_ 28 (d := dd__law_kind) rfl).choose_spec, He.glo_ok X G (c.fact 28 (f := .glo "_law_kind") rfl)⟩
  d__law_equal := ⟨_, _, (c.def_ 29 (d := dd__law_equal) rfl).choose_spec, He.glo_ok X G (c.fact 29 (f := .glo "_law_equal") rfl)⟩
  d__law_pool := ⟨_, _, (c.def_ 30 (d := dd__law_pool) rfl).choose_spec, He.glo_ok X G (c.fact 30 (f := .glo "_law_pool") rfl)⟩
  d__law_pick := ⟨_, _, (c.def_ 31 (d := dd__law_pick) rfl).choose_spec, He.glo_ok X G (c.fact 31 (f := .glo "_law_pick") rfl)⟩
  d__law_m_gcd := ⟨_, _, (c.def_ 32 (d := dd__law_m_gcd) rfl).choose_spec, He.glo_ok X G (c.fact 32 (f := .glo "_law_m_gcd") rfl)⟩
  d__law_m_f := ⟨_, _, (c.def_ 33 (d := dd__law_m_f) rfl).choose_spec, He.glo_ok X G (c.fact 33 (f := .glo "_law_m_f") rfl)⟩
  d__law_m_drawn_f := ⟨_, _, (c.def_ 34 (d := dd__law_m_drawn_f) rfl).choose_spec, He.glo_ok X G (c.fact 34 (f := .glo "_law_m_drawn_f") rfl)⟩
  d__law_m_trim := ⟨_, _, (c.def_ 35 (d := dd__law_m_trim) rfl).choose_spec, He.glo_ok X G (c.fact 35 (f := .glo "_law_m_trim") rfl)⟩
  d__law_m_content := ⟨_, _, (c.def_ 36 (d := dd__law_m_content) rfl).choose_spec, He.glo_ok X G (c.fact 36 (f := .glo "_law_m_content") rfl)⟩
  d__law_m_plain := ⟨_, _, (c.def_ 37 (d := dd__law_m_plain) rfl).choose_spec, He.glo_ok X G (c.fact 37 (f := .glo "_law_m_plain") rfl)⟩
  d__law_m_poly := ⟨_, _, (c.def_ 38 (d := dd__law_m_poly) rfl).choose_spec, He.glo_ok X G (c.fact 38 (f := .glo "_law_m_poly") rfl)⟩
  d__law_m_plain_one := ⟨_, _, (c.def_ 39 (d := dd__law_m_plain_one) rfl).choose_spec, He.glo_ok X G (c.fact 39 (f := .glo "_law_m_plain_one") rfl)⟩
  d__law_m_root := ⟨_, _, (c.def_ 40 (d := dd__law_m_root) rfl).choose_spec, He.glo_ok X G (c.fact 40 (f := .glo "_law_m_root") rfl)⟩
  d__law_m_ratio := ⟨_, _, (c.def_ 41 (d := dd__law_m_ratio) rfl).choose_spec, He.glo_ok X G (c.fact 41 (f := .glo "_law_m_ratio") rfl)⟩
  d__law_m_square := ⟨_, _, (c.def_ 42 (d := dd__law_m_square) rfl).choose_spec, He.glo_ok X G (c.fact 42 (f := .glo "_law_m_square") rfl)⟩
  d__law_m_square_proof := ⟨_, _, (c.def_ 43 (d := dd__law_m_square_proof) rfl).choose_spec, He.glo_ok X G (c.fact 43 (f := .glo "_law_m_square_proof") rfl)⟩
  d__law_m_text := ⟨_, _, (c.def_ 44 (d := dd__law_m_text) rfl).choose_spec, He.glo_ok X G (c.fact 44 (f := .glo "_law_m_text") rfl)⟩
  d__law_m_proof_text := ⟨_, _, (c.def_ 45 (d := dd__law_m_proof_text) rfl).choose_spec, He.glo_ok X G (c.fact 45 (f := .glo "_law_m_proof_text") rfl)⟩
  d__law_m_read := ⟨_, _, (c.def_ 46 (d := dd__law_m_read) rfl).choose_spec, He.glo_ok X G (c.fact 46 (f := .glo "_law_m_read") rfl)⟩
  d_law := ⟨_, _, (c.def_ 47 (d := dd_law) rfl).choose_spec, He.glo_ok X G (c.fact 47 (f := .glo "law") rfl)⟩
  z_abs := He.free_ok X G (c.fact 48 (f := .free "abs") rfl)
  z_all := He.free_ok X G (c.fact 49 (f := .free "all") rfl)
  z_bool := He.free_ok X G (c.fact 50 (f := .free "bool") rfl)
  z_dict := He.free_ok X G (c.fact 51 (f := .free "dict") rfl)
  z_int := He.free_ok X G (c.fact 52 (f := .free "int") rfl)
  z_isinstance := He.free_ok X G (c.fact 53 (f := .free "isinstance") rfl)
  z_len := He.free_ok X G (c.fact 54 (f := .free "len") rfl)
  z_list := He.free_ok X G (c.fact 55 (f := .free "list") rfl)
  z_max := He.free_ok X G (c.fact 56 (f := .free "max") rfl)
  z_min := He.free_ok X G (c.fact 57 (f := .free "min") rfl)
  z_range := He.free_ok X G (c.fact 58 (f := .free "range") rfl)
  z_str := He.free_ok X G (c.fact 59 (f := .free "str") rfl)
  z_tuple := He.free_ok X G (c.fact 60 (f := .free "tuple") rfl)
  c_COUNTS := conD_of (He.glo_ok X G (c.fact 61 (f := .glo "COUNTS") rfl)) tb0 (He.ba (He.ba ex).1).1 (He.ba (He.ba ex).1).2
  c_DEEP := by
      obtain ⟨t, ht⟩ := He.int_ok X G (c.fact 62 rfl)
      exact ⟨_, .int _, ht, ⟨t, rfl⟩, fun _ _ => by simp only [C_DEEP, Rep]⟩
  c_DIGITS := by
      obtain ⟨t, ht⟩ := He.str_ok X G (c.fact 63 rfl)
      exact ⟨_, .str _, ht, ⟨t, rfl⟩, fun _ _ => by simp only [C_DIGITS, Rep]⟩
  c_LETTERS := by
      obtain ⟨t, ht⟩ := He.str_ok X G (c.fact 64 rfl)
      exact ⟨_, .str _, ht, ⟨t, rfl⟩, fun _ _ => by simp only [C_LETTERS, Rep]⟩
  e_BadText := excT_of (He.glo_ok X G (c.fact 65 (f := .glo "BadText") rfl)) (c.fact 68 (f := .exc "BadText") rfl)
  e_NotAProof := excT_of (He.glo_ok X G (c.fact 66 (f := .glo "NotAProof") rfl)) (c.fact 69 (f := .exc "NotAProof") rfl)
  m_BadText_PartsError := excM_of (He.glo_ok X G (c.fact 65 (f := .glo "BadText") rfl)) (He.glo_ok X G (c.fact 67 (f := .glo "PartsError") rfl)) (c.fact 70 (f := .exm "BadText" "PartsError" true) rfl)
  m_NotAProof_PartsError := excM_of (He.glo_ok X G (c.fact 66 (f := .glo "NotAProof") rfl)) (He.glo_ok X G (c.fact 67 (f := .glo "PartsError") rfl)) (c.fact 71 (f := .exm "NotAProof" "PartsError" true) rfl)
  q_BadText_BadText := excQ_of (He.glo_ok X G (c.fact 65 (f := .glo "BadText") rfl)) (He.glo_ok X G (c.fact 65 (f := .glo "BadText") rfl)) (He.ba (He.ba ex).2).1
  q_BadText_NotAProof := excQ_of (He.glo_ok X G (c.fact 65 (f := .glo "BadText") rfl)) (He.glo_ok X G (c.fact 66 (f := .glo "NotAProof") rfl)) (He.ba (He.ba (He.ba ex).2).2).1
  q_NotAProof_BadText := excQ_of (He.glo_ok X G (c.fact 66 (f := .glo "NotAProof") rfl)) (He.glo_ok X G (c.fact 65 (f := .glo "BadText") rfl)) (He.ba (He.ba (He.ba (He.ba ex).2).2).2).1
  q_NotAProof_NotAProof := excQ_of (He.glo_ok X G (c.fact 66 (f := .glo "NotAProof") rfl)) (He.glo_ok X G (c.fact 66 (f := .glo "NotAProof") rfl)) (He.ba (He.ba (He.ba (He.ba ex).2).2).2).2
  p_PartsError := ⟨_, (He.glo_ok X G (c.fact 67 (f := .glo "PartsError") rfl))⟩
theorem factsL {P : Program} {w : World} {K : PySem.W.Frag} {h : Heap} {mg : Str → Option Value} {f : Addr} (X : K.In h) (G : h.Ns mainGlobals mg) (hfa : mg ("law" : Str) = some (.ref f)) (c : He.SaysD faL fnL K) (ex : exL K = true) (tb0 : ∃ es n, KDict K w (He.ga K "COUNTS") es n) :
    ∃ fd : FuncData, (∀ (s : Shared) (v : Value), BindsTo s fd ⟨[v], []⟩ [("script", v)]) ∧ ∀ base : Heap, K.In base → base.Ns mainGlobals mg → FnOk P w K mg base (CX P w) 81 f fd ["script"] (spF K mg 1 F_law) := by
  have T := txtL (w := w) X G c ex tb0
  obtain ⟨f', fd, F, hm⟩ := T.d_law.ex
  have e := hfa.symm.trans hm
  cases e
  have b := FunD.bindsA (ps := ["script"]) F fun _ _ _ _ _ _ us hl => match us, hl with | [_], _ => rfl
  exact ⟨fd, fun s v => b s [v] rfl, fun base _ _ => fn_at (ps := ["script"]) F sc_law (ok_law_body T)⟩
end Z

open PySem PySem.W PySem.Calls PyProof.Rows
set_option maxRecDepth 100000 in
set_option maxHeartbeats 0 in
theorem PySem.Challenge.cw_partsproved_k71_texts_of_proofs_holds : PySem.Challenge.rw_partsproved_k71_texts_of_proofs.Holds := by
  w_on; o_law
  refine HandSHeadRun.head_any (r := OpenLaw.row PySem.Challenge.rw_partsproved_k71_texts_of_proofs) (q := view (OpenLaw.row PySem.Challenge.rw_partsproved_k71_texts_of_proofs).prog [61]) (H := Z.hkL) (ob := Z.obL) (M := 20000) (loose := Z.looseL) (d := HandSHeadRun.topDef (OpenLaw.row PySem.Challenge.rw_partsproved_k71_texts_of_proofs).prog 61) (kwd := []) Z.obL_eq
    (by kernel_rfl) (fun s => by kernel_rfl) Z.runL (by kernel_rfl) (by kernel_rfl) (by kernel_rfl) (by rfl) (by first | assumption | decide +kernel) (by decide +kernel) ⟨rfl, rfl, rfl, rfl, rfl, by decide +kernel⟩ ?hw ?hc
  case hw => w_witness2
  case hc =>
    refine Z.walk_ofZ (l := PySem.Challenge.rw_partsproved_k71_texts_of_proofs) (n := 63) (k := 81) (x := "script") (CX := fun w => L2.CX PySem.Challenge.rw_partsproved_k71_texts_of_proofs.prog w) rfl (by decide) (by kernel_rfl) ⟨rfl, by decide, by decide⟩ ?F (fun w H s e s' h => Z.cx_none H s e s' h)
    intro w mg fa h Y G hmg0
    obtain ⟨K, KX, c⟩ := Y
    have hmg : mg ("law" : PySem.Str) = some (.ref fa) := by
      have e : (HandSHeadRun.topDef (OpenLaw.row PySem.Challenge.rw_partsproved_k71_texts_of_proofs).prog 61).name = ("law" : PySem.Str) := by kernel_rfl
      rw [← e]
      exact hmg0
    obtain ⟨fd, hb, hF⟩ := Z.factsL (P := (PySem.Challenge.rw_partsproved_k71_texts_of_proofs).prog) (w := w) KX G hmg c.t.d c.more (c.t.tab 0)
    exact ⟨K, fd, Z.spF _ _ 1 Z.F_law, KX, hb, Z.law_sp Z.law_true, hF⟩
