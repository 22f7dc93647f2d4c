import PyProof.Rows.All
import Wide.All
import OpenK.AllK
import Wide.FinOn
import HandS.ForMost
import HandS.Exc
import HandS.TryOnly
import HandS.TryMany
import HandS.ExcOwn
import HandS.WordsExc
import HandS.Style
import HandS.TupAny
import HandS.Wide
import HandS.IsInst
import HandS.Deep
import HandS.HeadHook1
import HandS.More
import HandS.Ends
import HandS.Defaults
import HandS.Head0
import HandS.Head1
import HandS.Head2
import HandS.HeadEnd
import HandS.HeadHook2
import HandS.Replace
import HandS.StrMore
import KE.DataCmp
import HandS.ExcIs
import PyProof.ExcBaseAll.ValueError
import HandS.Iter
import KE.GoesEnum
import HandS.Strs
import PyProof.Rows.SetFrom
import HandS.Zip
import KE.KDictPairs
import PySem.Challenge.RW_pageturns_k05_orders_places_gaps_known
set_option Elab.async false
set_option linter.all false
set_option maxRecDepth 100000
set_option maxHeartbeats 1000000
namespace MM
open PySem PySem.Spec PyProof.Rows L2

/-- values as trees; obj: the i-th cell of the small heap -/
inductive D where
  | non | bl (b : Bool) | int (i : Int) | str (x : Str)
  | tup (xs : List D) | lst (xs : List D)
  | obj (i : Nat) | adr (a : Addr) | ty (n : String)
  | arg (xs : List D) | glo (x : String) | ktup (xs : List D) | utup (xs : List D)

inductive Cell where
  | lst (xs : List D) | dct (kvs : List (Key × D)) | ins (C : Addr) (fs : List (Str × D)) | dead
abbrev Mem := List Cell
abbrev Sl := List (Option D)

/-- an error's class by its name -/
def exB : List String := ["ValueError", "KeyError", "IndexError", "TypeError", "Exception"]
def exV (K : PySem.W.Frag) (c : String) : Value := if exB.contains c = true then .type c else .ref (He.ga K (Str.ofString c))
/-- a guard that nobody works out -/
noncomputable def ifC {α : Type} (p : Prop) (a b : α) : α := @ite α p (Classical.propDecidable p) a b
theorem ifC_pos {α : Type} {p : Prop} {a b : α} (h : p) : ifC p a b = a := by unfold ifC; exact if_pos h
theorem ifC_neg {α : Type} {p : Prop} {a b : α} (h : ¬ p) : ifC p a b = b := by unfold ifC; exact if_neg h
/-- results -/
inductive RE (α : Type) where
  | ok (a : α) (M : Mem) | ex (c : String) (M : Mem) | no
inductive RS where
  | nx (s : Sl) (M : Mem) | rt (d : D) (M : Mem) | bk (s : Sl) (M : Mem) | ct (s : Sl) (M : Mem) | ex (c : String) (s : Sl) (M : Mem) | no
abbrev MX (α : Type) := Sl → Mem → RE α
abbrev ME := MX D
abbrev MS := Sl → Mem → RS
abbrev Fn := List D → Mem → RE D

def RE.bind {α β : Type} (r : RE α) (f : α → Mem → RE β) : RE β := match r with
  | .ok a M => f a M
  | .ex c M => .ex c M
  | .no => .no

/-- a state of the tracked heap as the small heap sees it -/
structure Wd where
  H : Hp
  F : Addr → Prop
  Z : Addr → Prop
  n : Nat
  r : Nat → Addr

/-- a tuple, of whose dict nothing is told -/
def FrU (K : PySem.W.Frag) (w : Wd) (a : Addr) (vs : List V) : Prop :=
  (w.F a ∧ w.H a = some (.tup vs)) ∨
    ∃ (o : Obj) (its : Array Value) (n : Nat), K.lookup a = some o ∧ o.cls = .type "tuple" ∧ o.data = .seq its n ∧ its.size ≤ sizeLine ∧ Vals vs its.toList
def FrL (w : Wd) (a : Addr) (vs : List V) : Prop := w.F a ∧ Rd w.H a (.lst vs)
theorem FrU.sq {K : PySem.W.Frag} {w : Wd} {a : Addr} {vs : List V} (h : FrU K w a vs) : SqT K w.H a vs := h.elim (fun h => .inl (.inl h.2)) .inr
/-- a list that is only read: frozen, or of the written part -/
def FrA (K : PySem.W.Frag) (w : Wd) (a : Addr) (vs : List V) : Prop :=
  FrL w a vs ∨
    ∃ (o : Obj) (its : Array Value) (n : Nat), K.lookup a = some o ∧ o.cls = .type "list" ∧ o.dict = none ∧ o.data = .seq its n ∧ its.size ≤ sizeLine ∧ Vals vs its.toList
theorem FrA.sq {K : PySem.W.Frag} {w : Wd} {a : Addr} {vs : List V} (h : FrA K w a vs) : SqL K w.H a vs := h.elim (fun h => .inl h.2) .inr
/-- a tuple of the written part -/
def FrK (K : PySem.W.Frag) (a : Addr) (vs : List V) : Prop :=
  ∃ (o : Obj) (its : Array Value) (n : Nat), K.lookup a = some o ∧ o.cls = .type "tuple" ∧ o.dict = none ∧ o.data = .seq its n ∧ its.size ≤ sizeLine ∧ Vals vs its.toList
/-- a tuple without a dict -/
def FrT (K : PySem.W.Frag) (w : Wd) (a : Addr) (vs : List V) : Prop := (w.F a ∧ ∃ o : Obj, o.dict = none ∧ w.H a = some (.frz o (.tup vs))) ∨ FrK K a vs
theorem FrT.sq {K : PySem.W.Frag} {w : Wd} {a : Addr} {vs : List V} (h : FrT K w a vs) : SqT K w.H a vs :=
  h.elim (fun h => let ⟨o, _, e⟩ := h.2; .inl (.inr ⟨o, e⟩)) fun h => let ⟨o, its, n, h1, h2, _, h4⟩ := h; .inr ⟨o, its, n, h1, h2, h4⟩
theorem FrK.t {K : PySem.W.Frag} {w : Wd} {a : Addr} {vs : List V} (h : FrK K a vs) : FrT K w a vs := .inr h
theorem FrL.sq {K : PySem.W.Frag} {w : Wd} {a : Addr} {vs : List V} (h : FrL w a vs) : SqL K w.H a vs := .inl h.2

/-- a text that may be: its signs, its length -/
def okS (x : Str) : Bool := PySem.PyData.strOk x && decide (x.length ≤ sizeLine)
mutual
inductive Den (K : PySem.W.Frag) (w : Wd) : V → D → Prop
  | non : Den K w .non .non
  | bl (b : Bool) : Den K w (.bl b) (.bl b)
  | int (i : Int) : Den K w (.int i) (.int i)
  | str (x : Str) (h : okS x = true) : Den K w (.str x) (.str x)
  | tup {a : Addr} {vs : List V} {ds : List D} : FrT K w a vs → Dens K w vs ds → Den K w (.ref a) (.tup ds)
  | lst {a : Addr} {vs : List V} {ds : List D} : FrL w a vs → Dens K w vs ds → Den K w (.ref a) (.lst ds)
  | obj {i : Nat} : i < w.n → Den K w (.ref (w.r i)) (.obj i)
  | adr (a : Addr) : Den K w (.ref a) (.adr a)
  | ty (n : String) : Den K w (.ty n) (.ty n)
  | arg {a : Addr} {vs : List V} {ds : List D} : FrA K w a vs → Dens K w vs ds → Den K w (.ref a) (.arg ds)
  | glo (x : String) : Den K w (.ref (He.ga K (Str.ofString x))) (.glo x)
  | ktup {a : Addr} {vs : List V} {ds : List D} : FrK K a vs → Dens K w vs ds → Den K w (.ref a) (.ktup ds)
  | utup {a : Addr} {vs : List V} {ds : List D} : FrU K w a vs → Dens K w vs ds → Den K w (.ref a) (.utup ds)
inductive Dens (K : PySem.W.Frag) (w : Wd) : List V → List D → Prop
  | nil : Dens K w [] []
  | cons {v : V} {vs : List V} {d : D} {ds : List D} : Den K w v d → Dens K w vs ds → Dens K w (v :: vs) (d :: ds)
end

/-- what was frozen stays, what is protected stays, the cells stand where they stood -/
structure Lw (w w' : Wd) : Prop where
  f : ∀ a, w.F a → w'.F a ∧ w'.H a = w.H a
  n : w.n ≤ w'.n
  r : ∀ i, i < w.n → w'.r i = w.r i
structure Le (w w' : Wd) : Prop where
  f : ∀ a, w.F a → w'.F a ∧ w'.H a = w.H a
  z : ∀ a, w.Z a → w'.H a = w.H a
  zz : w'.Z = w.Z
  n : w.n ≤ w'.n
  r : ∀ i, i < w.n → w'.r i = w.r i
theorem Le.lw {w w' : Wd} (l : Le w w') : Lw w w' := ⟨l.f, l.n, l.r⟩
theorem Lw.trans {a b c : Wd} (h : Lw a b) (k : Lw b c) : Lw a c :=
  ⟨fun x e => ⟨(k.f x (h.f x e).1).1, (k.f x (h.f x e).1).2.trans (h.f x e).2⟩, Nat.le_trans h.n k.n, fun i hi => (k.r i (Nat.lt_of_lt_of_le hi h.n)).trans (h.r i hi)⟩
theorem Le.refl (w : Wd) : Le w w := ⟨fun _ h => ⟨h, rfl⟩, fun _ _ => rfl, rfl, Nat.le_refl _, fun _ _ => rfl⟩
theorem Le.trans {a b c : Wd} (h : Le a b) (k : Le b c) : Le a c :=
  ⟨fun x e => ⟨(k.f x (h.f x e).1).1, (k.f x (h.f x e).1).2.trans (h.f x e).2⟩, fun x e => (k.z x (by rw [h.zz]; exact e)).trans (h.z x e), k.zz.trans h.zz,
    Nat.le_trans h.n k.n, fun i hi => (k.r i (Nat.lt_of_lt_of_le hi h.n)).trans (h.r i hi)⟩
theorem rd_eqH {H H' : Hp} {a : Addr} {u : HO} (h : Rd H a u) (e : H' a = H a) : Rd H' a u := by
  rcases h with h | ⟨o, h⟩
  · exact .inl (e.trans h)
  · exact .inr ⟨o, e.trans h⟩
section
variable {K : PySem.W.Frag} {w w' : Wd}
theorem FrU.mow {a : Addr} {vs : List V} (h : FrU K w a vs) (l : Lw w w') : FrU K w' a vs :=
  h.elim (fun h => .inl ⟨(l.f a h.1).1, (l.f a h.1).2.trans h.2⟩) .inr
theorem FrT.mow {a : Addr} {vs : List V} (h : FrT K w a vs) (l : Lw w w') : FrT K w' a vs :=
  h.elim (fun h => .inl ⟨(l.f a h.1).1, let ⟨o, h1, h2⟩ := h.2; ⟨o, h1, (l.f a h.1).2.trans h2⟩⟩) .inr
theorem FrL.mow {a : Addr} {vs : List V} (h : FrL w a vs) (l : Lw w w') : FrL w' a vs := ⟨(l.f a h.1).1, rd_eqH h.2 (l.f a h.1).2⟩
theorem FrA.mow {a : Addr} {vs : List V} (h : FrA K w a vs) (l : Lw w w') : FrA K w' a vs := h.elim (fun h => .inl (h.mow l)) .inr
mutual
theorem Den.mow (l : Lw w w') : ∀ {v : V} {d : D}, Den K w v d → Den K w' v d
  | _, _, .non => .non
  | _, _, .bl b => .bl b
  | _, _, .int i => .int i
  | _, _, .str x h => .str x h
  | _, _, .tup h t => .tup (h.mow l) (Dens.mow l t)
  | _, _, .lst h t => .lst (h.mow l) (Dens.mow l t)
  | _, _, .obj (i := i) h => by rw [← l.r i h]; exact .obj (Nat.lt_of_lt_of_le h l.n)
  | _, _, .adr a => .adr a
  | _, _, .ty n => .ty n
  | _, _, .arg h t => .arg (h.mow l) (Dens.mow l t)
  | _, _, .ktup h t => .ktup h (Dens.mow l t)
  | _, _, .utup h t => .utup (h.mow l) (Dens.mow l t)
  | _, _, .glo x => .glo x
theorem Dens.mow (l : Lw w w') : ∀ {vs : List V} {ds : List D}, Dens K w vs ds → Dens K w' vs ds
  | _, _, .nil => .nil
  | _, _, .cons h t => .cons (Den.mow l h) (Dens.mow l t)
end
theorem FrT.mono {a : Addr} {vs : List V} (h : FrT K w a vs) (l : Le w w') : FrT K w' a vs := h.mow l.lw
theorem FrL.mono {a : Addr} {vs : List V} (h : FrL w a vs) (l : Le w w') : FrL w' a vs := h.mow l.lw
theorem Den.mono {v : V} {d : D} (l : Le w w') (h : Den K w v d) : Den K w' v d := h.mow l.lw
theorem Dens.mono {vs : List V} {ds : List D} (l : Le w w') (h : Dens K w vs ds) : Dens K w' vs ds := h.mow l.lw
mutual
theorem Den.lift {w w' : Wd} (hH : w'.H = w.H) (hF : w'.F = w.F) (hn : w'.n = w.n) (hr : w'.r = w.r) : ∀ {v : V} {d : D}, Den K w v d → Den K w' v d
  | _, _, .non => .non
  | _, _, .bl b => .bl b
  | _, _, .int i => .int i
  | _, _, .str x h => .str x h
  | _, _, .tup h t => .tup (by unfold FrT at *; rw [hH, hF]; exact h) (Dens.lift hH hF hn hr t)
  | _, _, .lst h t => .lst (by unfold FrL at *; rw [hH, hF]; exact h) (Dens.lift hH hF hn hr t)
  | _, _, .obj (i := i) h => by rw [← hr]; exact .obj (by rw [hn]; exact h)
  | _, _, .adr a => .adr a
  | _, _, .ty n => .ty n
  | _, _, .arg h t => .arg (by unfold FrA FrL at *; rw [hH, hF]; exact h) (Dens.lift hH hF hn hr t)
  | _, _, .ktup h t => .ktup h (Dens.lift hH hF hn hr t)
  | _, _, .utup h t => .utup (by unfold FrU at *; rw [hH, hF]; exact h) (Dens.lift hH hF hn hr t)
  | _, _, .glo x => .glo x
theorem Dens.lift {w w' : Wd} (hH : w'.H = w.H) (hF : w'.F = w.F) (hn : w'.n = w.n) (hr : w'.r = w.r) : ∀ {vs : List V} {ds : List D}, Dens K w vs ds → Dens K w' vs ds
  | _, _, .nil => .nil
  | _, _, .cons h t => .cons (Den.lift hH hF hn hr h) (Dens.lift hH hF hn hr t)
end
theorem Dens.length : ∀ {vs : List V} {ds : List D}, Dens K w vs ds → vs.length = ds.length
  | _, _, .nil => rfl
  | _, _, .cons _ t => congrArg (· + 1) (Dens.length t)
theorem Dens.get : ∀ {vs : List V} {ds : List D} {i : Nat} {d : D}, Dens K w vs ds → ds[i]? = some d → ∃ v, vs[i]? = some v ∧ Den K w v d
  | _, _, _, _, .nil, e => by simp at e
  | _, _, 0, _, .cons r _, e => by simp at e; subst e; exact ⟨_, rfl, r⟩
  | _, _, i + 1, d, .cons _ t, e => by
    obtain ⟨u, h1, h2⟩ := Dens.get (i := i) (d := d) t (by simpa using e)
    exact ⟨u, by simpa using h1, h2⟩
theorem Dens.append : ∀ {xs ys : List V} {us ws : List D}, Dens K w xs us → Dens K w ys ws → Dens K w (xs ++ ys) (us ++ ws)
  | _, _, _, _, .nil, s => s
  | _, _, _, _, .cons r t, s => .cons r (Dens.append t s)
theorem Dens.take : ∀ {xs : List V} {us : List D} (n : Nat), Dens K w xs us → Dens K w (xs.take n) (us.take n)
  | _, _, 0, _ => .nil
  | _, _, _ + 1, .nil => .nil
  | _, _, n + 1, .cons r t => .cons r (Dens.take n t)
theorem Dens.drop : ∀ {xs : List V} {us : List D} (n : Nat), Dens K w xs us → Dens K w (xs.drop n) (us.drop n)
  | _, _, 0, r => r
  | _, _, _ + 1, .nil => .nil
  | _, _, n + 1, .cons _ t => Dens.drop n t
theorem Dens.set {x : V} {u : D} (r : Den K w x u) : ∀ {xs : List V} {us : List D} (i : Nat), Dens K w xs us → Dens K w (xs.set i x) (us.set i u)
  | _, _, _, .nil => .nil
  | _, _, 0, .cons _ t => .cons r t
  | _, _, i + 1, .cons q t => .cons q (Dens.set r i t)
theorem Dens.eraseIdx : ∀ {xs : List V} {us : List D} (i : Nat), Dens K w xs us → Dens K w (xs.eraseIdx i) (us.eraseIdx i)
  | _, _, _, .nil => .nil
  | _, _, 0, .cons _ t => t
  | _, _, i + 1, .cons q t => .cons q (Dens.eraseIdx i t)
theorem Dens.one {v : V} {d : D} (h : Den K w v d) : Dens K w [v] [d] := .cons h .nil
theorem Dens.reverse {xs : List V} {us : List D} (h : Dens K w xs us) : Dens K w xs.reverse us.reverse := by
  induction xs generalizing us with
  | nil => cases h; exact .nil
  | cons x xs ih =>
    cases h with
    | cons r t =>
      rw [List.reverse_cons, List.reverse_cons]
      exact Dens.append (ih t) (.one r)
theorem Dens.insertIdx {x : V} {u : D} (r : Den K w x u) : ∀ {xs : List V} {us : List D} (i : Nat), Dens K w xs us → Dens K w (xs.insertIdx i x) (us.insertIdx i u)
  | _, _, 0, t => by simpa using Dens.cons r t
  | _, _, i + 1, .nil => by simpa using Dens.nil
  | _, _, i + 1, .cons q t => by
    rw [List.insertIdx_succ_cons, List.insertIdx_succ_cons]
    exact .cons q (Dens.insertIdx r i t)
theorem Dens.rep {xs : List V} {us : List D} (h : Dens K w xs us) : ∀ k : Nat, Dens K w (List.replicate k xs).flatten (List.replicate k us).flatten
  | 0 => .nil
  | k + 1 => by
    rw [List.replicate_succ, List.replicate_succ, List.flatten_cons, List.flatten_cons]
    exact h.append (Dens.rep h k)

/-- a cell as it stands -/
def CellR (K : PySem.W.Frag) (w : Wd) (a : Addr) : Cell → Prop
  | .lst ds => ∃ vs, w.H a = some (.lst vs) ∧ Dens K w vs ds
  | .dct kvs => ∃ ps : List (Key × V), w.H a = some (.dK ps) ∧ ps.map (·.1) = kvs.map (·.1) ∧ Dens K w (ps.map (·.2)) (kvs.map (·.2))
  | .ins C fs => ∃ dx gs, w.H a = some (.ins C dx gs) ∧ gs.map (·.1) = fs.map (·.1) ∧ Dens K w (gs.map (·.2)) (fs.map (·.2))
  | .dead => w.H a ≠ none
theorem CellR.there {a : Addr} {c : Cell} (h : CellR K w a c) : w.H a ≠ none := by
  cases c with
  | lst ds => obtain ⟨vs, e, _⟩ := h; rw [e]; exact fun z => nomatch z
  | dct ds => obtain ⟨vs, e, _⟩ := h; rw [e]; exact fun z => nomatch z
  | ins C fs => obtain ⟨dx, vs, e, _⟩ := h; rw [e]; exact fun z => nomatch z
  | dead => exact h
theorem CellR.mono {a : Addr} {c : Cell} (h : CellR K w a c) (l : Le w w') (e : w'.H a = w.H a) : CellR K w' a c := by
  cases c with
  | lst ds => obtain ⟨vs, q, t⟩ := h; exact ⟨vs, e.trans q, t.mono l⟩
  | dct ds => obtain ⟨vs, q, k, t⟩ := h; exact ⟨vs, e.trans q, k, t.mono l⟩
  | ins C fs => obtain ⟨dx, vs, q, k, t⟩ := h; exact ⟨dx, vs, e.trans q, k, t.mono l⟩
  | dead => exact fun z => h (e ▸ z)

structure Rep (K : PySem.W.Frag) (w : Wd) (M : Mem) : Prop where
  n : w.n = M.length
  hF : ∀ a, w.F a → w.H a ≠ none
  hZ : ∀ a, w.Z a → w.H a ≠ none
  fr : ∀ i, i < w.n → ¬ w.F (w.r i)
  zr : ∀ i, i < w.n → ¬ w.Z (w.r i)
  fz : ∀ a, w.F a → ¬ w.Z a
  inj : ∀ i j, i < w.n → j < w.n → w.r i = w.r j → i = j
  cells : ∀ i c, M[i]? = some c → CellR K w (w.r i) c

/-- the slots -/
structure SlotR (K : PySem.W.Frag) (w : Wd) (σ : L2.St) (s : Sl) : Prop where
  len : σ.length = s.length
  get : ∀ (i : Nat) (d : D), s[i]? = some (some d) → ∃ v, σ[i]? = some (some v) ∧ Den K w v d
theorem SlotR.mow {σ : L2.St} {s : Sl} (h : SlotR K w σ s) (l : Lw w w') : SlotR K w' σ s :=
  ⟨h.len, fun i d e => let ⟨v, a, b⟩ := h.get i d e; ⟨v, a, b.mow l⟩⟩
theorem SlotR.mono {σ : L2.St} {s : Sl} (h : SlotR K w σ s) (l : Le w w') : SlotR K w' σ s :=
  ⟨h.len, fun i d e => let ⟨v, a, b⟩ := h.get i d e; ⟨v, a, b.mono l⟩⟩
theorem SlotR.set {σ : L2.St} {s : Sl} (h : SlotR K w σ s) {v : V} {d : D} (r : Den K w v d) (i : Nat) : SlotR K w (σ.set i (some v)) (s.set i (some d)) := by
  refine ⟨by simpa using h.len, fun j e q => ?_⟩
  by_cases hj : j = i
  · subst hj
    by_cases hl : j < s.length
    · rw [List.getElem?_set_self hl] at q
      cases q
      exact ⟨v, by rw [List.getElem?_set_self (by rw [h.len]; exact hl)], r⟩
    · rw [List.getElem?_eq_none (by simpa using hl)] at q
      cases q
  · rw [List.getElem?_set_ne (Ne.symm hj)] at q
    obtain ⟨v', a, b⟩ := h.get j e q
    exact ⟨v', by rw [List.getElem?_set_ne (Ne.symm hj)]; exact a, b⟩

/-! ### what is wanted -/
def PostE (K : PySem.W.Frag) (W : WX) (w : Wd) (σ : L2.St) (Q : VK) : RE D → Prop
  | .ok d M' => ∀ w' v, Le w w' → Rep K w' M' → Den K w' v d → Q v w'.H
  | .ex c M' => ∀ w', Le w w' → Rep K w' M' → W (exV K c) none σ w'.H
  | .no => False
def PostG {α : Type} (K : PySem.W.Frag) (W : WX) (w : Wd) (σ : L2.St) (P : α → Wd → Prop) : RE α → Prop
  | .ok d M' => ∀ w', Le w w' → Rep K w' M' → P d w'
  | .ex c M' => ∀ w', Le w w' → Rep K w' M' → W (exV K c) none σ w'.H
  | .no => False
def PostS (K : PySem.W.Frag) (W : WX) (w : Wd) (D : Ends) : RS → Prop
  | .nx s M' => ∀ w' σ', Le w w' → Rep K w' M' → SlotR K w' σ' s → D.nx σ' w'.H
  | .rt d M' => ∀ w' v, Le w w' → Rep K w' M' → Den K w' v d → D.rt v w'.H
  | .bk s M' => ∀ w' σ', Le w w' → Rep K w' M' → SlotR K w' σ' s → D.bk σ' w'.H
  | .ct s M' => ∀ w' σ', Le w w' → Rep K w' M' → SlotR K w' σ' s → D.ct σ' w'.H
  | .ex c s M' => ∀ w' σ', Le w w' → Rep K w' M' → SlotR K w' σ' s → W (exV K c) none σ' w'.H
  | .no => False

def tE (K : PySem.W.Frag) (W : WX) (m : ME) : TE := fun σ H Q => ∃ w s M, w.H = H ∧ Rep K w M ∧ SlotR K w σ s ∧ PostE K W w σ Q (m s M)
def tT (K : PySem.W.Frag) (W : WX) (m : MX Bool) : TT := fun σ H Q => ∃ w s M, w.H = H ∧ Rep K w M ∧ SlotR K w σ s ∧ PostG K W w σ (fun b w' => Q b w'.H) (m s M)
def tA (K : PySem.W.Frag) (W : WX) (m : MX (List D)) : TA := fun σ H Q => ∃ w s M, w.H = H ∧ Rep K w M ∧ SlotR K w σ s ∧ PostG K W w σ (fun ds w' => ∀ vs, Dens K w' vs ds → Q vs w'.H) (m s M)
/-- a fresh list -/
def tL (K : PySem.W.Frag) (W : WX) (m : MX (List D)) : TE := fun σ H Q => ∃ w s M, w.H = H ∧ Rep K w M ∧ SlotR K w σ s ∧
  PostG K W w σ (fun ds w' => ∀ p vs, w'.H p = none → Dens K w' vs ds → Q (.ref p) (upd w'.H p (.lst vs))) (m s M)
def tS (K : PySem.W.Frag) (W : WX) (m : MS) : TS := fun D σ H => ∃ w s M, w.H = H ∧ Rep K w M ∧ SlotR K w σ s ∧ PostS K W w D (m s M)

/-! ### monotone judgements -/
end
theorem PE.imp {X : Cx} {e : Expr} {t t' : TE} (h : PE X e t) (k : ∀ σ H Q, t' σ H Q → t σ H Q) : PE X e t' := ⟨fun pins s σ H Q I q => h.run pins s σ H Q I (k σ H Q q)⟩
theorem PT.imp {X : Cx} {e : Expr} {t t' : TT} (h : PT X e t) (k : ∀ σ H Q, t' σ H Q → t σ H Q) : PT X e t' := ⟨fun pins s σ H Q I q => h.run pins s σ H Q I (k σ H Q q)⟩
theorem PW.imp {X : Cx} {e : Expr} {t t' : TT} (h : PW X e t) (k : ∀ σ H Q, t' σ H Q → t σ H Q) : PW X e t' := ⟨fun wh pins s σ H Q I q => h.run wh pins s σ H Q I (k σ H Q q)⟩
theorem PA.imp {X : Cx} {e : List Expr} {t t' : TA} (h : PA X e t) (k : ∀ σ H Q, t' σ H Q → t σ H Q) : PA X e t' := ⟨fun pos pins s σ H Q I q => h.run pos pins s σ H Q I (k σ H Q q)⟩
theorem PS.imp {X : Cx} {e : Stmt} {t t' : TS} (h : PS X e t) (k : ∀ D σ H, t' D σ H → t D σ H) : PS X e t' := ⟨fun pins s σ H D I q => h.run pins s σ H D I (k D σ H q)⟩
theorem PSs.imp {X : Cx} {e : List Stmt} {t t' : TS} (h : PSs X e t) (k : ∀ D σ H, t' D σ H → t D σ H) : PSs X e t' := ⟨fun pins s σ H D I q => h.run pins s σ H D I (k D σ H q)⟩

section
variable {K : PySem.W.Frag} {W : WX} {w w' : Wd} {σ : L2.St}
theorem PostE.le {Q : VK} {r : RE D} (h : PostE K W w σ Q r) (l : Le w w') : PostE K W w' σ Q r := by
  cases r with
  | ok d M => exact fun w2 v k R q => h w2 v (l.trans k) R q
  | ex c M => exact fun w2 k R => h w2 (l.trans k) R
  | no => exact h
theorem PostG.le {α : Type} {P : α → Wd → Prop} {r : RE α} (h : PostG K W w σ P r) (l : Le w w') : PostG K W w' σ P r := by
  cases r with
  | ok d M => exact fun w2 k R => h w2 (l.trans k) R
  | ex c M => exact fun w2 k R => h w2 (l.trans k) R
  | no => exact h
theorem PostS.le {D : Ends} {r : RS} (h : PostS K W w D r) (l : Le w w') : PostS K W w' D r := by
  cases r with
  | nx s M => exact fun w2 σ2 k R q => h w2 σ2 (l.trans k) R q
  | rt d M => exact fun w2 v k R q => h w2 v (l.trans k) R q
  | bk s M => exact fun w2 σ2 k R q => h w2 σ2 (l.trans k) R q
  | ct s M => exact fun w2 σ2 k R q => h w2 σ2 (l.trans k) R q
  | ex c s M => exact fun w2 σ2 k R q => h w2 σ2 (l.trans k) R q
  | no => exact h
theorem PostE.toG {Q : VK} {r : RE D} (h : PostE K W w σ Q r) : PostG K W w σ (fun d w' => ∀ v, Den K w' v d → Q v w'.H) r := by
  cases r with
  | ok d M => exact fun w2 k R v q => h w2 v k R q
  | ex c M => exact h
  | no => exact h
theorem PostG.toE {Q : VK} {r : RE D} (h : PostG K W w σ (fun d w' => ∀ v, Den K w' v d → Q v w'.H) r) : PostE K W w σ Q r := by
  cases r with
  | ok d M => exact fun w2 v k R q => h w2 k R v q
  | ex c M => exact h
  | no => exact h
/-- an expression's reading, then the rest: THE STEP -/
theorem tE_bind {β : Type} {m : ME} {s : Sl} {M : Mem} {f : D → Mem → RE β} {P : β → Wd → Prop} {Q : VK} (R : Rep K w M) (S : SlotR K w σ s)
    (h : PostG K W w σ P ((m s M).bind f)) (k : ∀ d M' w' v, Le w w' → Rep K w' M' → Den K w' v d → PostG K W w' σ P (f d M') → Q v w'.H) : tE K W m σ w.H Q := by
  refine ⟨w, s, M, rfl, R, S, ?_⟩
  cases e : m s M with
  | ok d M' => rw [e] at h; exact fun w' v l R' q => k d M' w' v l R' q (PostG.le (r := f d M') h l)
  | ex c M' => rw [e] at h; exact h
  | no => rw [e] at h; exact h
theorem tG_bind {α β : Type} {m : MX α} {s : Sl} {M : Mem} {f : α → Mem → RE β} {P : β → Wd → Prop} {P' : α → Wd → Prop}
    (h : PostG K W w σ P ((m s M).bind f)) (k : ∀ d M' w', Le w w' → Rep K w' M' → PostG K W w' σ P (f d M') → P' d w') : PostG K W w σ P' (m s M) := by
  cases e : m s M with
  | ok d M' => rw [e] at h; exact fun w' l R' => k d M' w' l R' (PostG.le (r := f d M') h l)
  | ex c M' => rw [e] at h; exact h
  | no => rw [e] at h; exact h
end

/-! ### how the small heap grows -/
section
variable {K : PySem.W.Frag} {w : Wd} {M : Mem} {p : Addr} {o : HO}
def Wd.fz (w : Wd) (p : Addr) (o : HO) : Wd := { w with H := upd w.H p o, F := fun a => a = p ∨ w.F a }
def Wd.junk (w : Wd) (p : Addr) (o : HO) : Wd := { w with H := upd w.H p o }
def Wd.cell (w : Wd) (p : Addr) (o : HO) : Wd := { w with H := upd w.H p o, n := w.n + 1, r := fun i => if i = w.n then p else w.r i }
theorem Rep.ne (R : Rep K w M) (hp : w.H p = none) {i : Nat} (hi : i < w.n) : w.r i ≠ p := by
  intro e
  have hi' : i < M.length := by rw [← R.n]; exact hi
  obtain ⟨c, hc⟩ : ∃ c, M[i]? = some c := ⟨M[i], by simp [hi']⟩
  exact (R.cells i c hc).there (by rw [e]; exact hp)
theorem le_junk (R : Rep K w M) (hp : w.H p = none) : Le w (w.junk p o) :=
  ⟨fun a h => ⟨h, upd_ne fun e => R.hF a h (by rw [e]; exact hp)⟩, fun a h => upd_ne fun e => R.hZ a h (by rw [e]; exact hp), rfl, Nat.le_refl _, fun _ _ => rfl⟩
theorem rep_junk (R : Rep K w M) (hp : w.H p = none) : Rep K (w.junk p o) M := by
  have l := le_junk (o := o) R hp
  refine ⟨R.n, fun a h => ?_, fun a h => ?_, R.fr, R.zr, R.fz, R.inj, fun i c h => ?_⟩
  · rw [(l.f a h).2]; exact R.hF a h
  · rw [l.z a h]; exact R.hZ a h
  · have hi : i < w.n := by rw [R.n]; exact (List.getElem?_eq_some_iff.mp h).1
    exact (R.cells i c h).mono l (upd_ne (R.ne hp hi))
theorem le_fz (R : Rep K w M) (hp : w.H p = none) : Le w (w.fz p o) :=
  ⟨fun a h => ⟨.inr h, upd_ne fun e => R.hF a h (by rw [e]; exact hp)⟩, fun a h => upd_ne fun e => R.hZ a h (by rw [e]; exact hp), rfl, Nat.le_refl _, fun _ _ => rfl⟩
theorem rep_fz (R : Rep K w M) (hp : w.H p = none) : Rep K (w.fz p o) M := by
  have l := le_fz (o := o) R hp
  refine ⟨R.n, fun a h => ?_, fun a h => ?_, fun i hi h => ?_, R.zr, fun a h => ?_, R.inj, fun i c h => ?_⟩
  · rcases h with rfl | h
    · show upd w.H a o a ≠ none
      rw [upd_same]; exact fun z => nomatch z
    · rw [(l.f a h).2]; exact R.hF a h
  · rw [l.z a h]; exact R.hZ a h
  · rcases h with h | h
    · exact R.ne hp hi h
    · exact R.fr i hi h
  · rcases h with rfl | h
    · exact fun z => R.hZ a z hp
    · exact R.fz a h
  · have hi : i < w.n := by rw [R.n]; exact (List.getElem?_eq_some_iff.mp h).1
    exact (R.cells i c h).mono l (upd_ne (R.ne hp hi))
theorem le_cell (R : Rep K w M) (hp : w.H p = none) : Le w (w.cell p o) :=
  ⟨fun a h => ⟨h, upd_ne fun e => R.hF a h (by rw [e]; exact hp)⟩, fun a h => upd_ne fun e => R.hZ a h (by rw [e]; exact hp), rfl, Nat.le_succ _, fun i hi => if_neg (Nat.ne_of_lt hi)⟩
theorem rep_cell {c : Cell} (R : Rep K w M) (hp : w.H p = none) (hc : CellR K (w.cell p o) p c) : Rep K (w.cell p o) (M ++ [c]) := by
  have l := le_cell (o := o) R hp
  have rn : (w.cell p o).r w.n = p := if_pos rfl
  refine ⟨by show w.n + 1 = _; rw [R.n]; simp, fun a h => ?_, fun a h => ?_, fun i hi h => ?_, fun i hi h => ?_, R.fz, fun i j hi hj e => ?_, fun i c' h => ?_⟩
  · rw [(l.f a h).2]; exact R.hF a h
  · rw [l.z a h]; exact R.hZ a h
  · by_cases e : i = w.n
    · subst e; rw [rn] at h; exact R.hF p h hp
    · have hi' : i < w.n := by have : i < w.n + 1 := hi; omega
      rw [l.r i hi'] at h; exact R.fr i hi' h
  · by_cases e : i = w.n
    · subst e; rw [rn] at h; exact R.hZ p h hp
    · have hi' : i < w.n := by have : i < w.n + 1 := hi; omega
      rw [l.r i hi'] at h; exact R.zr i hi' h
  · have hi' : i < w.n + 1 := hi
    have hj' : j < w.n + 1 := hj
    by_cases e1 : i = w.n
    · by_cases e2 : j = w.n
      · rw [e1, e2]
      · exact absurd (by rw [← l.r j (by omega), ← e, e1, rn]) (R.ne hp (i := j) (by omega))
    · by_cases e2 : j = w.n
      · exact absurd (by rw [← l.r i (by omega), e, e2, rn]) (R.ne hp (i := i) (by omega))
      · rw [l.r i (by omega), l.r j (by omega)] at e
        exact R.inj i j (by omega) (by omega) e
  · by_cases hi : i < M.length
    · rw [List.getElem?_append_left hi] at h
      rw [l.r i (by rw [R.n]; exact hi)]
      exact (R.cells i c' h).mono l (upd_ne (R.ne hp (by rw [R.n]; exact hi)))
    · have e : i = M.length := by
        have := (List.getElem?_eq_some_iff.mp h).1
        simp at this; omega
      subst e
      simp at h
      subst h
      rw [← R.n, rn]
      exact hc
/-- a cell is written -/
def Wd.put (w : Wd) (i : Nat) (o : HO) : Wd := { w with H := upd w.H (w.r i) o }
theorem le_put (R : Rep K w M) {i : Nat} (hi : i < w.n) : Le w (w.put i o) :=
  ⟨fun a h => ⟨h, upd_ne fun e => R.fr i hi (by rw [← e]; exact h)⟩, fun a h => upd_ne fun e => R.zr i hi (by rw [← e]; exact h), rfl, Nat.le_refl _, fun _ _ => rfl⟩
theorem rep_put {i : Nat} {c : Cell} (R : Rep K w M) (hi : i < w.n) (hc : CellR K (w.put i o) (w.r i) c) : Rep K (w.put i o) (M.set i c) := by
  have l := le_put (o := o) R hi
  refine ⟨by rw [List.length_set]; exact R.n, fun a h => ?_, fun a h => ?_, R.fr, R.zr, R.fz, R.inj, fun j c' h => ?_⟩
  · rw [(l.f a h).2]; exact R.hF a h
  · rw [l.z a h]; exact R.hZ a h
  · by_cases e : j = i
    · subst e
      rw [List.getElem?_set_self (by rw [← R.n]; exact hi)] at h
      cases h
      exact hc
    · rw [List.getElem?_set_ne (Ne.symm e)] at h
      have hj : j < w.n := by rw [R.n]; exact (List.getElem?_eq_some_iff.mp h).1
      exact (R.cells j c' h).mono l (upd_ne fun z => e (R.inj j i hj hi z))
end
end MM
namespace MM
open PySem PySem.Spec PyProof.Rows L2
/-! ### a new tuple, its object told -/
section
variable {X : Cx}
def tTupF (t : TA) : TE := fun σ H Q => t σ H fun xs H1 => xs.length ≤ sizeLine ∧ ∀ p (o : Obj), o.dict = none → H1 p = none → Q (.ref p) (upd H1 p (.frz o (.tup xs)))
theorem pe_tupF {es : List Expr} {t : TA} {pos : Pos} {x1} (h : PA X es t) : PE X (.Tuple es x1 pos) (tTupF t) := by
  refine ⟨fun pins s σ H Q I hq => ?_⟩
  refine wpAny_Tuple_spliced (thn (h.run pos pins s σ H _ I hq) fun us s1 ⟨xs, H1, I1, r, z, q⟩ => ⟨by rw [← r.length]; exact z, ?_⟩)
  have hf : H1 s1.heap.objs.size = none := I1.hok.fresh (Nat.le_refl _)
  refine ⟨.ref s1.heap.objs.size, upd H1 s1.heap.objs.size (.frz _ (.tup xs)), I1.laid (t' := s1.toks) (fun b u e => Heap.get?_push_of_some _ e) (Nat.le_refl _) ⟨Heap.get?_push_size _ rfl, ?_⟩, rfl, q _ _ rfl hf⟩
  exact ⟨z, us, r, ⟨_, Heap.get?_push_size _ rfl, rfl, _, rfl⟩⟩
def rCatF (K : PySem.W.Frag) : R2 := fun x y H Q => ∃ a b xs ys, x = .ref a ∧ y = .ref b ∧ SqT K H a xs ∧ SqT K H b ys ∧ xs.length + ys.length ≤ sizeLine ∧
  (xs = [] → Q (.ref b) H) ∧ (xs ≠ [] → ys = [] → Q (.ref a) H) ∧ (xs ≠ [] → ys ≠ [] → ∀ p (o : Obj), o.dict = none → H p = none → Q (.ref p) (upd H p (.frz o (.tup (xs ++ ys)))))
theorem op_catF : OpR X (binaryOp .Add) (rCatF X.K) := by
  intro pins s σ H x y v u Q I rx ry h
  obtain ⟨a, b, xs, ys, rfl, rfl, ha, hb, hz, q0, q1, q2⟩ := h
  by_cases hx : xs = []
  · exact op_catA pins s σ H _ _ v u Q I rx ry ⟨a, b, xs, ys, rfl, rfl, ha, hb, hz, q0, q1, fun z => absurd hx z⟩
  · cases rx
    cases ry
    obtain ⟨its, r1, p1, _⟩ := I.tuple ha
    obtain ⟨its2, r2, p2, _⟩ := I.tuple hb
    refine HT.cat_tup p1 p2 (fun z => hx (r1.nil_iff.mp z)) (fun z => ⟨.ref a, H, I, rfl, q1 hx (r2.nil_iff.mp z)⟩) (fun z => ?_) (by rw [← r1.length, ← r2.length]; exact hz)
    refine ⟨.ref s.heap.objs.size, _, I.laid (t' := s.toks) (o := .frz _ (.tup (xs ++ ys))) (fun b ob q => Heap.get?_push_of_some _ q) (Nat.le_refl _) ⟨Heap.get?_push_size _ rfl, ?_⟩, rfl, q2 hx (fun w => z (r2.nil_iff.mpr w)) _ _ rfl (I.hok.fresh (Nat.le_refl _))⟩
    exact ⟨by rw [List.length_append]; exact hz, _, r1.append r2, IsTup.new _ _⟩
def rSlF (K : PySem.W.Frag) : V → Option Int → Option Int → Hp → VK → Prop := fun x lo hi H Q => ∃ a xs, x = .ref a ∧ SqT K H a xs ∧
  (HT.sIx xs.length 0 lo = 0 ∧ HT.sIx xs.length xs.length hi = xs.length → Q (.ref a) H) ∧ (¬ (HT.sIx xs.length 0 lo = 0 ∧ HT.sIx xs.length xs.length hi = xs.length) → ∀ p (o : Obj), o.dict = none → H p = none → Q (.ref p) (upd H p (.frz o (.tup (cutV xs lo hi)))))
theorem sl_tupF : SlR X (rSlF X.K) := by
  intro pins s σ H x v vl vu lo hi sl Q I rx hs pl pu h
  obtain ⟨a, xs, rfl, hx, q1, q2⟩ := h
  by_cases hw : HT.sIx xs.length 0 lo = 0 ∧ HT.sIx xs.length xs.length hi = xs.length
  · exact sl_tupA pins s σ H _ v vl vu lo hi sl Q I rx hs pl pu ⟨a, xs, rfl, hx, q1, fun z => absurd hw z⟩
  · cases rx
    obtain ⟨its, r, ht, hz⟩ := I.tuple hx
    have hlen : its.toArray.size = xs.length := by rw [List.size_toArray]; exact r.length.symm
    refine ⟨"tuple", _, PyProof.Rows.slot_tuple_getitem.lookup, ht.typeIs, ?_⟩
    refine HT.getItem_tuple_cut ht hs pl pu (by rw [hlen]; exact hw) ?_ (by rw [hlen]; exact hz)
    rw [hlen]
    refine ⟨.ref s.heap.objs.size, _, I.laid (t' := s.toks) (o := .frz _ (.tup (cutV xs lo hi))) (fun b ob q => Heap.get?_push_of_some _ q) (Nat.le_refl _) ⟨Heap.get?_push_size _ rfl, ?_⟩, rfl, q2 hw _ _ rfl (I.hok.fresh (Nat.le_refl _))⟩
    exact ⟨Nat.le_trans (cutV_length xs lo hi) hz, _, (r.drop (HT.sIx xs.length 0 lo)).take (HT.sIx xs.length xs.length hi - HT.sIx xs.length 0 lo), IsTup.new _ _⟩
theorem call_tupleF : CallR X (.type "tuple") (fun xs H Q => ∃ p ys, xs = [.ref p] ∧ ((SqL X.K H p ys ∧ ∀ l (o : Obj), o.dict = none → H l = none → Q (.ref l) (upd H l (.frz o (.tup ys)))) ∨ (SqT X.K H p ys ∧ Q (.ref p) H))) := by
  intro pins s σ H xs us Q I r h
  obtain ⟨p, ys, rfl, h⟩ := h
  rcases h with ⟨hq, q⟩ | ⟨hq, q⟩
  · obtain ⟨u, rfl, rx⟩ := vals1 r
    cases rx
    obtain ⟨its, r', pl, hz⟩ := I.list hq
    have hlen := r'.length
    refine call_tuple_list pl.isList (fun h' kp => ?_) (by simp only [List.size_toArray] <;> omega)
    have I1 : Inv X pins σ H { s with heap := h' } := I.kept (t' := s.toks) kp
    have I2 : Inv X pins σ (upd H h'.objs.size (.frz { cls := .type "tuple", data := .seq its.toArray } (.tup ys))) { s with heap := h'.push { cls := .type "tuple", data := .seq its.toArray } } :=
      I1.laid (t' := s.toks) (fun b o e => Heap.get?_push_of_some _ e) (Nat.le_refl _) (show ObjOk X.prog X.w _ _ _ (.frz _ (.tup ys)) from ⟨Heap.get?_push_size _ rfl, hz, its, r', IsTup.new _ _⟩)
    exact ⟨.ref h'.objs.size, _, I2, rfl, q _ _ rfl (I1.hok.fresh (Nat.le_refl _))⟩
  · exact call_tuple_of pins s σ H _ us Q I r ⟨p, ys, rfl, .inr ⟨hq, q⟩⟩
end

section
variable {X : Cx} {W : WX} {pos : Pos}
/-! ### names, constants -/
def eVar (i : Nat) : ME := fun s M => match s[i]? with | some (some d) => .ok d M | _ => .no
theorem s_var (i : Nat) {x : Str} (hN : X.N[i]? = some x := by rfl) (hv : Vis X.env.scope x := by first | exact Or.inl rfl | exact Or.inr (Or.inl rfl) | exact Or.inr (Or.inr rfl)) (hd : (x == ("__debug__" : Str)) = false := by decide)
    (hcd : (x == ("__classdict__" : Str)) = false := by decide) : PE X (.Name x pos) (tE X.K W (eVar i)) :=
  PE.imp (pe_var hN hv hd hcd) fun σ H Q ⟨w, s, M, hH, R, S, h⟩ => by
    unfold eVar at h
    split at h
    · rename_i d e
      obtain ⟨v, e1, r⟩ := S.get i d e
      subst hH
      exact ⟨v, e1, h w v (Le.refl _) R r⟩
    · exact h.elim
def eC (d : D) : ME := fun _ M => .ok d M
theorem s_const {e : Expr} {v : V} {d : D} (he : PE X e (tC v)) (hd : ∀ w, Den X.K w v d) : PE X e (tE X.K W (eC d)) :=
  PE.imp he fun σ H Q ⟨w, s, M, hH, R, S, h⟩ => by subst hH; exact h w v (Le.refl _) R (hd w)
theorem s_int {i j} : PE X (.Constant (.int i) j pos) (tE X.K W (eC (.int i))) := s_const pe_int fun _ => .int i
theorem s_bl {i j} : PE X (.Constant (.bool i) j pos) (tE X.K W (eC (.bl i))) := s_const pe_bl fun _ => .bl i
theorem s_non {j} : PE X (.Constant .none j pos) (tE X.K W (eC .non)) := s_const pe_non fun _ => .non
theorem s_str {x : Str} {j} (h : okS x = true := by decide +kernel) : PE X (.Constant (.str x) j pos) (tE X.K W (eC (.str x))) := s_const pe_str fun _ => .str x h
/-- a module's name whose value is known -/
structure Con (K : PySem.W.Frag) (mg : Str → Option Value) (x : Str) (d : D) : Prop where
  ex : ∃ u v, mg x = some u ∧ RelV v u ∧ ∀ w, Den K w v d
theorem s_glob {x : Str} {d : D} (c : Con X.K X.mg x d) (hg : Gl X x := by rfl) (hd : (x == ("__debug__" : Str)) = false := by decide) : PE X (.Name x pos) (tE X.K W (eC d)) :=
  let ⟨_, _, hm, r, q⟩ := c.ex
  s_const (pe_glob hg hm r hd) q

/-! ### argument lists -/
def aNil : MX (List D) := fun _ M => .ok [] M
def aCons (m : ME) (r : MX (List D)) : MX (List D) := fun s M => (m s M).bind fun d M1 => (r s M1).bind fun ds M2 => .ok (d :: ds) M2
variable {e a b : Expr} {es : List Expr} {m ma mb : ME} {r : MX (List D)}
theorem s_nil : PA X [] (tA X.K W aNil) := PA.imp pa_nil fun σ H Q ⟨w, s, M, hH, R, S, h⟩ => by
  subst hH; exact h w (Le.refl _) R [] .nil
theorem s_cons (ha : PE X e (tE X.K W m)) (hr : PA X es (tA X.K W r)) (hs : starEach (e :: es) X.env = (false, eval e X.env) :: starEach es X.env := by rfl) : PA X (e :: es) (tA X.K W (aCons m r)) :=
  PA.imp (pa_cons ha hr hs) fun σ H Q ⟨w, s, M, hH, R, S, h⟩ => by
    subst hH
    exact tE_bind R S h fun d M' w' v l R' q P => ⟨w', s, M', rfl, R', S.mono l, tG_bind P fun ds M2 w2 l2 R2 P2 => fun vs q2 => P2 w2 (Le.refl _) R2 (v :: vs) (.cons (q.mono l2) q2)⟩

/-! ### operators by values -/
def rM (K : PySem.W.Frag) (f : Mem → D → D → Option D) : R2 := fun x y H Q => ∃ w M d e z, w.H = H ∧ Rep K w M ∧ Den K w x d ∧ Den K w y e ∧ f M d e = some z ∧ ∀ w' v, Le w w' → Rep K w' M → Den K w' v z → Q v w'.H
def OpD (X : Cx) (op : Value → Value → Sem Value) (f : Mem → D → D → Option D) : Prop := OpR X op (rM X.K f)
def oo (x : Option D) (M : Mem) : RE D := match x with | some z => .ok z M | none => .no
def e2 (f : Mem → D → D → Option D) (ma mb : ME) : ME := fun s M => (ma s M).bind fun x M1 => (mb s M1).bind fun y M2 => oo (f M2 x y) M2
theorem tE_two {f : Mem → D → D → Option D} {σ : L2.St} {Q : VK} {w : Wd} {s : Sl} {M : Mem} (R : Rep X.K w M) (S : SlotR X.K w σ s) (h : PostE X.K W w σ Q (e2 f ma mb s M)) :
    tE X.K W ma σ w.H fun x H1 => tE X.K W mb σ H1 fun y H2 => rM X.K f x y H2 Q :=
  tE_bind R S h.toG fun d M' w' v l R' q P => tE_bind R' (S.mono l) P fun d2 M2 w2 v2 l2 R2 q2 P2 => by
    cases z : f M2 d d2 with
    | none => rw [z] at P2; exact P2.elim
    | some t =>
      rw [z] at P2
      exact ⟨w2, M2, d, d2, t, rfl, R2, q.mono l2, q2, z, fun w3 v3 l3 R3 q3 => P2 w3 l3 R3 v3 q3⟩
theorem s_op {op : Operator} {f : Mem → D → D → Option D} (ho : OpD X (binaryOp op) f) (ha : PE X a (tE X.K W ma)) (hb : PE X b (tE X.K W mb)) : PE X (.BinOp a op b pos) (tE X.K W (e2 f ma mb)) :=
  PE.imp (pe_op ho ha hb) fun σ H Q ⟨w, s, M, hH, R, S, h⟩ => by subst hH; exact tE_two R S h
theorem s_cmp {op : CmpOp} {f : Mem → D → D → Option D} (ho : OpD X (compareOp op) f) (ha : PE X a (tE X.K W ma)) (hb : PE X b (tE X.K W mb)) (hm : behindInMarks op b = false := by first | exact nomark _ | rfl) : PE X (.Compare a [op] [b] pos) (tE X.K W (e2 f ma mb)) :=
  PE.imp (pe_cmpR ho ha hb hm) fun σ H Q ⟨w, s, M, hH, R, S, h⟩ => by subst hH; exact tE_two R S h
/-- a < b < c -/
def eChain (f g : Mem → D → D → Option D) (ma mb mc : ME) : ME := fun s M => (ma s M).bind fun x M1 => (mb s M1).bind fun y M2 => (oo (f M2 x y) M2).bind fun k M2 =>
  match k with | .bl true => (mc s M2).bind fun z M3 => oo (g M3 y z) M3 | .bl false => .ok (.bl false) M2 | _ => .no
theorem chain_read {f g : Mem → D → D → Option D} {mc : ME} {σ : L2.St} {H : Hp} {Q : VK} (h : tE X.K W (eChain f g ma mb mc) σ H Q) : tChain (rM X.K f) (rM X.K g) (tE X.K W ma) (tE X.K W mb) (tE X.K W mc) σ H Q := by
  obtain ⟨w, s, M, hH, R, S, h⟩ := h
  subst hH
  show tE X.K W ma σ w.H fun x H1 => tE X.K W mb σ H1 fun y H2 => rM X.K f x y H2 fun z H3 => ∃ k, z = .bl k ∧ (if k = true then tE X.K W mc σ H3 fun w' H4 => rM X.K g y w' H4 Q else Q (.bl false) H3)
  refine tE_bind R S h.toG fun d M' w' v l R' q P => ?_
  show tE X.K W mb σ w'.H fun y H2 => rM X.K f v y H2 fun z H3 => ∃ k, z = .bl k ∧ (if k = true then tE X.K W mc σ H3 fun w' H4 => rM X.K g y w' H4 Q else Q (.bl false) H3)
  refine tE_bind R' (S.mono l) P fun d2 M2 w2 v2 l2 R2 q2 P2 => ?_
  cases z : f M2 d d2 with
  | none => rw [z] at P2; exact P2.elim
  | some t =>
    rw [z] at P2
    refine ⟨w2, M2, d, d2, t, rfl, R2, q.mono l2, q2, z, fun w3 v3 l3 R3 q3 => ?_⟩
    cases q3 with
    | bl k =>
      refine ⟨k, rfl, ?_⟩
      cases k with
      | false => exact P2 w3 l3 R3 _ (.bl false)
      | true =>
        have P3 := PostG.le P2 l3
        show tE X.K W mc σ w3.H fun w' H4 => rM X.K g v2 w' H4 Q
        exact tE_bind R3 (S.mono ((l.trans l2).trans l3)) P3 fun d4 M4 w4 v4 l4 R4 q4 P4 => by
          cases z4 : g M4 d2 d4 with
          | none => rw [z4] at P4; exact P4.elim
          | some t4 => rw [z4] at P4; exact ⟨w4, M4, d2, d4, t4, rfl, R4, q2.mono (l3.trans l4), q4, z4, fun w5 v5 l5 R5 q5 => P4 w5 l5 R5 v5 q5⟩
    | _ => exact P2.elim
theorem s_chain {op op' : CmpOp} {f g : Mem → D → D → Option D} {c : Expr} {mc : ME} (ho : OpD X (compareOp op) f) (ho' : OpD X (compareOp op') g) (ha : PE X a (tE X.K W ma)) (hb : PE X b (tE X.K W mb)) (hc : PE X c (tE X.K W mc))
    (hm : lastMarks [op, op'] [b, c] = false := by with_unfolding_all rfl) : PE X (.Compare a [op, op'] [b, c] pos) (tE X.K W (eChain f g ma mb mc)) :=
  PE.imp (pe_chain ho ho' ha hb hc hm) fun σ H Q h => chain_read h

/-! ### truth -/
/-- an expression whose value is a bool, as a test -/
def tOf (m : ME) : MX Bool := fun s M => (m s M).bind fun d M' => match d with | .bl b => .ok b M' | _ => .no
theorem PE.test {t : TE} (h : PE X e t) (he : ∀ whole, isTrue e X.env whole = (do let v ← whole; standAt e.pos; holding [v] (truthy v))) : PT X e (tB t) := pt_val h he
theorem tE_test {σ : L2.St} {Q : Bool → Hp → Prop} {w : Wd} {s : Sl} {M : Mem} (R : Rep X.K w M) (S : SlotR X.K w σ s) (h : PostG X.K W w σ (fun b w' => Q b w'.H) (tOf m s M)) : tE X.K W m σ w.H fun x H1 => ∃ c, x = .bl c ∧ Q c H1 :=
  tE_bind R S h fun d M' w' v l R' q P => by
    cases q with
    | bl b => exact ⟨b, rfl, P w' (Le.refl _) R'⟩
    | _ => exact P.elim
theorem s_test (h : PE X e (tE X.K W m)) (he : ∀ whole, isTrue e X.env whole = (do let v ← whole; standAt e.pos; holding [v] (truthy v)) := by intro _; rfl) : PT X e (tT X.K W (tOf m)) :=
  PT.imp (pt_val h he) fun σ H Q ⟨w, s, M, hH, R, S, h⟩ => by subst hH; exact tE_test R S h
theorem tOf_E {σ : L2.St} {H : Hp} {Q : Bool → Hp → Prop} (h : tT X.K W (tOf m) σ H Q) : tE X.K W m σ H fun x H' => ∃ k, x = .bl k ∧ Q k H' := by
  obtain ⟨w, s, M, hH, R, S, h⟩ := h
  subst hH
  exact tE_test R S h
theorem s_tchain {op op' : CmpOp} {f g : Mem → D → D → Option D} {c : Expr} {mc : ME} (ho : OpD X (compareOp op) f) (ho' : OpD X (compareOp op') g) (ha : PE X a (tE X.K W ma)) (hb : PE X b (tE X.K W mb)) (hc : PE X c (tE X.K W mc))
    (hm : lastMarks [op, op'] [b, c] = false := by with_unfolding_all rfl) : PT X (.Compare a [op, op'] [b, c] pos) (tT X.K W (tOf (eChain f g ma mb mc))) :=
  PT.imp (pt_chain ho ho' ha hb hc hm) fun σ H Q h => chain_read (tOf_E h)
theorem s_tcmp {op : CmpOp} {f : Mem → D → D → Option D} (ho : OpD X (compareOp op) f) (ha : PE X a (tE X.K W ma)) (hb : PE X b (tE X.K W mb)) (hm : behindInMarks op b = false := by first | exact nomark _ | rfl) : PT X (.Compare a [op] [b] pos) (tT X.K W (tOf (e2 f ma mb))) :=
  PT.imp (pt_cmpR ho ha hb hm) fun σ H Q h => by
    obtain ⟨w, s, M, hH, R, S, h2⟩ := tOf_E h
    subst hH
    exact tE_two R S h2
variable {ta tb : MX Bool} {rest : List Expr}
def tAnd2 (t u : MX Bool) : MX Bool := fun s M => (t s M).bind fun c M1 => if c = true then u s M1 else .ok false M1
def tOr2 (t u : MX Bool) : MX Bool := fun s M => (t s M).bind fun c M1 => if c = true then .ok true M1 else u s M1
def tNot1 (t : MX Bool) : MX Bool := fun s M => (t s M).bind fun c M1 => .ok (!c) M1
theorem tT_bind {β : Type} {t : MX Bool} {s : Sl} {M : Mem} {σ : L2.St} {w : Wd} {f : Bool → Mem → RE β} {P : β → Wd → Prop} {Q : Bool → Hp → Prop} (R : Rep X.K w M) (S : SlotR X.K w σ s)
    (h : PostG X.K W w σ P ((t s M).bind f)) (k : ∀ d M' w', Le w w' → Rep X.K w' M' → PostG X.K W w' σ P (f d M') → Q d w'.H) : tT X.K W t σ w.H Q :=
  ⟨w, s, M, rfl, R, S, tG_bind h k⟩
theorem s_and1 (ha : PT X a (tT X.K W ta)) : PW X (.BoolOp .And [a] pos) (tT X.K W ta) := pw_and1 ha
theorem s_or1 (ha : PT X a (tT X.K W ta)) : PW X (.BoolOp .Or [a] pos) (tT X.K W ta) := pw_or1 ha
theorem s_and (ha : PT X a (tT X.K W ta)) (hb : PW X (.BoolOp .And (b :: rest) pos) (tT X.K W tb)) : PW X (.BoolOp .And (a :: b :: rest) pos) (tT X.K W (tAnd2 ta tb)) :=
  PW.imp (pw_and ha hb) fun σ H Q ⟨w, s, M, hH, R, S, h⟩ => by
    subst hH
    exact tT_bind R S h fun c M' w' l R' P => by
      cases c with
      | true => exact ⟨w', s, M', rfl, R', S.mono l, P⟩
      | false => exact P w' (Le.refl _) R'
theorem s_or (ha : PT X a (tT X.K W ta)) (hb : PW X (.BoolOp .Or (b :: rest) pos) (tT X.K W tb)) : PW X (.BoolOp .Or (a :: b :: rest) pos) (tT X.K W (tOr2 ta tb)) :=
  PW.imp (pw_or ha hb) fun σ H Q ⟨w, s, M, hH, R, S, h⟩ => by
    subst hH
    exact tT_bind R S h fun c M' w' l R' P => by
      cases c with
      | false => exact ⟨w', s, M', rfl, R', S.mono l, P⟩
      | true => exact P w' (Le.refl _) R'
theorem s_not (ha : PT X a (tT X.K W ta)) : PT X (.UnaryOp .Not a pos) (tT X.K W (tNot1 ta)) :=
  PT.imp (pt_not ha) fun σ H Q ⟨w, s, M, hH, R, S, h⟩ => by
    subst hH
    exact tT_bind R S h fun c M' w' l R' P => P w' (Le.refl _) R'
/-- .. as values -/
def eAnd (ma mb : ME) : ME := fun s M => (tOf ma s M).bind fun c M1 => if c = true then mb s M1 else .ok (.bl false) M1
def eOr (ma mb : ME) : ME := fun s M => (tOf ma s M).bind fun c M1 => if c = true then .ok (.bl true) M1 else mb s M1
def eNot (ma : ME) : ME := fun s M => (tOf ma s M).bind fun c M1 => .ok (.bl (!c)) M1
theorem tE_btest {β : Type} {σ : L2.St} {Q : Bool → Hp → Prop} {w : Wd} {s : Sl} {M : Mem} {f : Bool → Mem → RE β} {P : β → Wd → Prop} (R : Rep X.K w M) (S : SlotR X.K w σ s)
    (h : PostG X.K W w σ P ((tOf m s M).bind f)) (k : ∀ d M' w', Le w w' → Rep X.K w' M' → PostG X.K W w' σ P (f d M') → Q d w'.H) : tE X.K W m σ w.H fun x H1 => ∃ c, x = .bl c ∧ Q c H1 :=
  tE_test R S (tG_bind h k)
theorem s_vone {op} (h : PE X a (tE X.K W m)) : PE X (.BoolOp op [a] pos) (tE X.K W m) := pe_one h
theorem s_vand (ha : PE X a (tE X.K W ma)) (hb : PE X (.BoolOp .And (b :: rest) pos) (tE X.K W mb)) : PE X (.BoolOp .And (a :: b :: rest) pos) (tE X.K W (eAnd ma mb)) :=
  PE.imp (pe_and ha hb) fun σ H Q ⟨w, s, M, hH, R, S, h⟩ => by
    subst hH
    refine tE_btest (Q := fun c H1 => if c = true then tE X.K W mb σ H1 Q else Q (.bl false) H1) R S h.toG fun c M' w' l R' P => ?_
    cases c with
    | true => exact ⟨w', s, M', rfl, R', S.mono l, PostG.toE P⟩
    | false => exact P w' (Le.refl _) R' _ (.bl false)
theorem s_vor (ha : PE X a (tE X.K W ma)) (hb : PE X (.BoolOp .Or (b :: rest) pos) (tE X.K W mb)) : PE X (.BoolOp .Or (a :: b :: rest) pos) (tE X.K W (eOr ma mb)) :=
  PE.imp (pe_or ha hb) fun σ H Q ⟨w, s, M, hH, R, S, h⟩ => by
    subst hH
    refine tE_btest (Q := fun c H1 => if c = true then Q (.bl true) H1 else tE X.K W mb σ H1 Q) R S h.toG fun c M' w' l R' P => ?_
    cases c with
    | false => exact ⟨w', s, M', rfl, R', S.mono l, PostG.toE P⟩
    | true => exact P w' (Le.refl _) R' _ (.bl true)
theorem s_vnot (ha : PE X a (tE X.K W ma)) : PE X (.UnaryOp .Not a pos) (tE X.K W (eNot ma)) :=
  PE.imp (pe_not ha) fun σ H Q ⟨w, s, M, hH, R, S, h⟩ => by
    subst hH
    exact tE_btest (Q := fun c H1 => Q (.bl (!c)) H1) R S h.toG fun c M' w' l R' P => P w' (Le.refl _) R' _ (.bl _)
def eIf (t : MX Bool) (ma mb : ME) : ME := fun s M => (t s M).bind fun c M1 => if c = true then ma s M1 else mb s M1
theorem s_ifExp {c : Expr} {t : MX Bool} (hc : PT X c (tT X.K W t)) (ha : PE X a (tE X.K W ma)) (hb : PE X b (tE X.K W mb)) : PE X (.IfExp c a b pos) (tE X.K W (eIf t ma mb)) :=
  PE.imp (pe_ifExp hc ha hb) fun σ H Q ⟨w, s, M, hH, R, S, h⟩ => by
    subst hH
    exact tT_bind R S h.toG fun c M' w' l R' P => by
      cases c with
      | true => exact ⟨w', s, M', rfl, R', S.mono l, PostG.toE P⟩
      | false => exact ⟨w', s, M', rfl, R', S.mono l, PostG.toE P⟩

/-! ### displays -/
def eTup (r : MX (List D)) : ME := fun s M => (r s M).bind fun ds M' => if ds.length ≤ sizeLine then .ok (.tup ds) M' else .no
theorem tA_bind {β : Type} {s : Sl} {M : Mem} {σ : L2.St} {w : Wd} {f : List D → Mem → RE β} {P : β → Wd → Prop} {Q : List V → Hp → Prop} (R : Rep X.K w M) (S : SlotR X.K w σ s)
    (h : PostG X.K W w σ P ((r s M).bind f)) (k : ∀ ds M' w' vs, Le w w' → Rep X.K w' M' → Dens X.K w' vs ds → PostG X.K W w' σ P (f ds M') → Q vs w'.H) : tA X.K W r σ w.H Q :=
  ⟨w, s, M, rfl, R, S, tG_bind h fun d M' w' l R' P vs q => k d M' w' vs l R' q P⟩
theorem s_tup {x1} (h : PA X es (tA X.K W r)) : PE X (.Tuple es x1 pos) (tE X.K W (eTup r)) :=
  PE.imp (pe_tupF h) fun σ H Q ⟨w, s, M, hH, R, S, h⟩ => by
    subst hH
    exact tA_bind R S h.toG fun ds M' w' vs l R' q P => by
      split at P
      · rename_i hz
        refine ⟨by rw [q.length]; exact hz, fun p o ho hp => ?_⟩
        exact P (w'.fz p (.frz o (.tup vs))) (le_fz R' hp) (rep_fz R' hp) (.ref p) (.tup (.inl ⟨.inl rfl, o, ho, upd_same⟩) (q.mono (le_fz R' hp)))
      · exact P.elim
/-- a list, written -/
def lLst (r : MX (List D)) : MX (List D) := fun s M => (r s M).bind fun ds M' => if ds.length ≤ sizeLine then .ok ds M' else .no
theorem s_lst (h : PA X es (tA X.K W r)) : PE X (.List es pos) (tL X.K W (lLst r)) :=
  PE.imp (pe_lst h) fun σ H Q ⟨w, s, M, hH, R, S, h⟩ => by
    subst hH
    exact tA_bind R S h fun ds M' w' vs l R' q P => by
      split at P
      · rename_i hz
        exact ⟨by rw [q.length]; exact hz, fun p hp => P w' (Le.refl _) R' p vs hp q⟩
      · exact P.elim
/-- a fresh list as a tree, as a cell -/
def eTree (m : MX (List D)) : ME := fun s M => (m s M).bind fun ds M' => .ok (.lst ds) M'
def eCell (m : MX (List D)) : ME := fun s M => (m s M).bind fun ds M' => .ok (.obj M'.length) (M' ++ [.lst ds])
theorem tree_read {m : MX (List D)} {σ : L2.St} {H : Hp} {Q : VK} (h : tE X.K W (eTree m) σ H Q) : tL X.K W m σ H Q := by
    obtain ⟨w, s, M, hH, R, S, h⟩ := h
    subst hH
    refine ⟨w, s, M, rfl, R, S, tG_bind h.toG fun ds M' w' l R' P p vs hp q => ?_⟩
    exact P (w'.fz p (.lst vs)) (le_fz R' hp) (rep_fz R' hp) (.ref p) (.lst ⟨.inl rfl, .inl upd_same⟩ (q.mono (le_fz R' hp)))
theorem s_tree {m : MX (List D)} (h : PE X e (tL X.K W m)) : PE X e (tE X.K W (eTree m)) := PE.imp h fun σ H Q h => tree_read h
theorem cell_read {m : MX (List D)} {σ : L2.St} {H : Hp} {Q : VK} (h : tE X.K W (eCell m) σ H Q) : tL X.K W m σ H Q := by
    obtain ⟨w, s, M, hH, R, S, h⟩ := h
    subst hH
    refine ⟨w, s, M, rfl, R, S, tG_bind h.toG fun ds M' w' l R' P p vs hp q => ?_⟩
    have l2 := le_cell (o := .lst vs) R' hp
    have R2 := rep_cell (c := .lst ds) (o := .lst vs) R' hp ⟨vs, upd_same, q.mono l2⟩
    refine P (w'.cell p (.lst vs)) l2 R2 (.ref p) ?_
    have z : (w'.cell p (.lst vs)).r M'.length = p := by rw [← R'.n]; exact if_pos rfl
    have z2 : M'.length < (w'.cell p (.lst vs)).n := by show M'.length < w'.n + 1; rw [R'.n]; exact Nat.lt_succ_self _
    have z3 : Den X.K (w'.cell p (.lst vs)) (.ref ((w'.cell p (.lst vs)).r M'.length)) (.obj M'.length) := .obj z2
    rw [z] at z3
    exact z3
theorem s_cell {m : MX (List D)} (h : PE X e (tL X.K W m)) : PE X e (tE X.K W (eCell m)) := PE.imp h fun σ H Q h => cell_read h
end
end MM
namespace MM
open PySem PySem.Spec PyProof.Rows L2

/-! ### texts -/
theorem str_cat (x y : Str) : (x ++ y).cps = x.cps ++ y.cps := rfl
theorem len_cat (x y : Str) : (x ++ y).length = x.length + y.length := by
  show (x ++ y).cps.size = x.cps.size + y.cps.size
  rw [str_cat, Array.size_append]
theorem okS_iff {x : Str} : okS x = true ↔ (∀ c ∈ x.cps.toList, c < 0x110000) ∧ x.length ≤ sizeLine := by
  unfold okS PySem.PyData.strOk
  rw [Bool.and_eq_true, decide_eq_true_iff, ← Array.all_toList, List.all_eq_true]
  simp only [decide_eq_true_eq]
theorem okS_len {x : Str} (h : okS x = true) : x.length ≤ sizeLine := (okS_iff.mp h).2
theorem okS_cat {x y : Str} (hx : okS x = true) (hy : okS y = true) (h : x.length + y.length ≤ sizeLine) : okS (x ++ y) = true := by
  rw [okS_iff] at *
  refine ⟨fun c hc => ?_, by rw [len_cat]; exact h⟩
  rw [str_cat] at hc
  simp at hc
  rcases hc with hc | hc
  · exact hx.1 c (by simpa using hc)
  · exact hy.1 c (by simpa using hc)
theorem okS_sub {x y : Str} (hx : okS x = true) (h : ∀ c ∈ y.cps.toList, c ∈ x.cps.toList) (hl : y.length ≤ sizeLine) : okS y = true := by
  rw [okS_iff] at *
  exact ⟨fun c hc => hx.1 c (h c hc), hl⟩

/-! ### lists as they are read -/
def listD (M : Mem) : D → Option (List D)
  | .lst xs => some xs
  | .obj i => match M[i]? with | some (.lst xs) => some xs | _ => none
  | _ => none
/-- a list or a tuple -/
def seqD (M : Mem) : D → Option (List D)
  | .tup xs => some xs
  | .ktup xs => some xs
  | d => listD M d
section
variable {X : Cx} {pins : List (Addr × Obj)} {σ : L2.St} {s : Shared} {w : Wd} {M : Mem}
theorem Inv.rdl {H : Hp} {l : Addr} {xs : List V} (I : Inv X pins σ H s) (hH : Rd H l (.lst xs)) : xs.length ≤ sizeLine ∧ ∃ (its : List Value) (n : Nat), Vals xs its ∧ xs.length = its.length ∧ s.heap.get? l = some { cls := .type "list", data := .seq its.toArray n } := by
  obtain ⟨z, its, n, r, e⟩ := hH.ok I.hok
  exact ⟨z, its, n, r, r.length, e⟩
theorem listD_rd (R : Rep X.K w M) {v : V} {d : D} {ds : List D} (h : Den X.K w v d) (e : listD M d = some ds) : ∃ a vs, v = .ref a ∧ Rd w.H a (.lst vs) ∧ Dens X.K w vs ds := by
  cases h with
  | lst f t => cases e; exact ⟨_, _, rfl, f.2, t⟩
  | obj hi =>
    rename_i i
    unfold listD at e
    dsimp only at e
    split at e
    · rename_i xs h1
      cases e
      obtain ⟨vs, h2, t⟩ := R.cells i _ h1
      exact ⟨_, vs, rfl, .inl h2, t⟩
    · cases e
  | _ => cases e
theorem seqD_rd (R : Rep X.K w M) {v : V} {d : D} {ds : List D} (h : Den X.K w v d) (e : seqD M d = some ds) : ∃ a vs, v = .ref a ∧ (SqL X.K w.H a vs ∨ SqT X.K w.H a vs) ∧ Dens X.K w vs ds := by
  cases h with
  | tup f t => cases e; exact ⟨_, _, rfl, .inr f.sq, t⟩
  | ktup f t => cases e; exact ⟨_, _, rfl, .inr (FrT.sq (w := w) f.t), t⟩
  | lst f t => cases e; exact ⟨_, _, rfl, .inl f.sq, t⟩
  | obj hi =>
    obtain ⟨a, vs, h1, h2, h3⟩ := listD_rd R (.obj hi) (show listD M _ = some ds from e)
    exact ⟨a, vs, h1, .inl (.inl h2), h3⟩
  | _ => cases e
end

/-! ### arithmetic -/
noncomputable def mulOk (i j : Int) : Bool := @decide ((-(2 ^ 64) < i ∧ i < 2 ^ 64) ∨ (-(2 ^ 64) < j ∧ j < 2 ^ 64) ∨ i.natAbs.log2 + j.natAbs.log2 < 1000000) (Classical.propDecidable _)
def addD (M : Mem) (a b : D) : Option D := match a, b with
  | .int i, .int j => some (.int (i + j))
  | .str x, .str y => if x.length + y.length ≤ sizeLine then some (.str (x ++ y)) else none
  | .tup xs, .tup ys => if xs.length + ys.length ≤ sizeLine then some (.tup (xs ++ ys)) else none
  | a, b => match listD M a, listD M b with
    | some xs, some ys => if xs.length + ys.length ≤ sizeLine then some (.lst (xs ++ ys)) else none
    | _, _ => none
def subD (_ : Mem) : D → D → Option D
  | .int i, .int j => some (.int (i - j))
  | _, _ => none
noncomputable def mulD (M : Mem) (a b : D) : Option D := match a, b with
  | .int i, .int j => if mulOk i j = true then some (.int (i * j)) else none
  | .str x, .int j => if x.length * j.toNat ≤ sizeLine ∧ -(2 ^ 63) ≤ j ∧ j ≤ 16777216 then some (.str (Txt.mul x j)) else none
  | a, .int j => match listD M a with
    | some xs => if xs.length * j.toNat ≤ sizeLine ∧ -(2 ^ 63) ≤ j ∧ j < 2 ^ 63 then some (.lst (List.replicate j.toNat xs).flatten) else none
    | none => none
  | _, _ => none
def modD (_ : Mem) : D → D → Option D
  | .int i, .int j => if 0 < j then some (.int (i % j)) else none
  | _, _ => none
def fdivD (_ : Mem) : D → D → Option D
  | .int i, .int j => if 0 < j ∧ j.natAbs.log2 < 9000 then some (.int (i / j)) else none
  | _, _ => none
def powD (_ : Mem) : D → D → Option D
  | .int i, .int j => if 0 ≤ j ∧ j ≤ 1000000 ∧ i.natAbs < 2 ^ 64 then some (.int (i ^ j.toNat)) else none
  | _, _ => none
theorem mulOk_iff {i j : Int} : mulOk i j = true ↔ ((-(2 ^ 64) < i ∧ i < 2 ^ 64) ∨ (-(2 ^ 64) < j ∧ j < 2 ^ 64) ∨ i.natAbs.log2 + j.natAbs.log2 < 1000000) := @decide_eq_true_iff _ (Classical.propDecidable _)
section
variable {X : Cx}
/-- the catenation of two lists that are read -/
theorem op_catR : OpR X (binaryOp .Add) (fun x y H Q => ∃ l b xs zs, x = .ref l ∧ y = .ref b ∧ Rd H l (.lst xs) ∧ Rd H b (.lst zs) ∧ xs.length + zs.length ≤ sizeLine ∧ ∀ p, H p = none → Q (.ref p) (upd H p (.lst (xs ++ zs)))) := by
  intro pins s σ H x y v u Q I rx ry h
  obtain ⟨l, b, xs, zs, rfl, rfl, hH, hB, hz, q⟩ := h
  cases rx
  cases ry
  obtain ⟨z, its, n, r, hl, e⟩ := Inv.rdl I hH
  obtain ⟨z2, its2, n2, r2, hl2, e2⟩ := Inv.rdl I hB
  refine PySem.P.add_list e e2 ?_ (by rw [List.size_toArray, List.size_toArray]; omega)
  have ea : its.toArray ++ its2.toArray = (its ++ its2).toArray := by simp
  rw [ea]
  exact ⟨.ref _, _, I.lnew (t' := s.toks) (r.append r2) (by rw [List.length_append]; omega), rfl, q _ I.fresh⟩
theorem op_repR : OpR X (binaryOp .Mult) (fun x y H Q => ∃ l k xs, x = .ref l ∧ y = .int k ∧ Rd H l (.lst xs) ∧ -(2 ^ 63) ≤ k ∧ k < 2 ^ 63 ∧ xs.length * k.toNat ≤ sizeLine ∧
    ∀ p, H p = none → Q (.ref p) (upd H p (.lst (List.replicate k.toNat xs).flatten))) := by
  intro pins s σ H x y v u Q I rx ry h
  obtain ⟨l, k, xs, rfl, rfl, hH, h1, h2, hz, q⟩ := h
  cases rx
  obtain ⟨t, rfl⟩ := ry
  obtain ⟨z, its, n, r, hl, e⟩ := Inv.rdl I hH
  have hlen : its.toArray.size * k.toNat ≤ sizeLine := by rw [List.size_toArray, ← hl]; exact hz
  have hcap : ¬ its.toArray.size * k.toNat > (2 ^ 63 - 1) / 8 := by
    have : (sizeLine : Nat) ≤ (2 ^ 63 - 1) / 8 := by decide
    omega
  have hfit : ¬ (!Builtin.List.listFitsIndex k) = true := by
    rw [fitsIndex_both h1 h2]
    exact Bool.false_ne_true
  have hlong : ¬ Builtin.List.listTooLong (its.toArray.size * k.toNat) = true := by
    rw [notLongL hlen]
    exact Bool.false_ne_true
  have hnew : List.foldl (fun x1 x2 => x1 ++ x2) #[] (List.replicate (if its.toArray.isEmpty = true then 0 else k.toNat) its.toArray) = (List.replicate k.toNat its).flatten.toArray := by
    have f0 : ∀ m : Nat, List.foldl (fun x1 x2 => x1 ++ x2) #[] (List.replicate m its.toArray) = (List.replicate m its).flatten.toArray := fun m => by
      have := foldl_rep its m []
      rw [List.nil_append] at this
      exact this
    rw [f0]
    cases its with
    | nil => simp
    | cons a r' => rw [if_neg (by simp)]
  refine wpAny_binaryOp_repeat_ref (T := "list") (U := "int") (by decide) ⟨_, e, rfl⟩ (fun s' => typeIs_int s' k t) noFill_list_mul F.fills_int_mul F.slot_int_rmul repeat_list F.slot_int_index.lookup
    (call_meets F.slot_int_rmul (typeIs_int s k t) F.entry_int_rmul (F.args_int_rmul_2 _ _) (int___rmul___int_list k t l its.toArray n)
      ⟨e, rfl, ⟨_, e, rfl⟩, call_meets F.slot_list_mul ⟨_, e, rfl⟩ F.entry_list_mul (F.args_list_mul_2 _ _) (AutoListH.list___mul___list_int_3 l its.toArray n k t hfit hcap hlong) ⟨e, ?_⟩⟩)
  rw [hnew]
  exact ⟨.ref _, _, I.lnew (t' := s.toks) (r.rep k.toNat) (by rw [PyProof.Rows.lm_len_rep_flat, Nat.mul_comm]; exact hz), rfl, q _ I.fresh⟩
theorem d_add : OpD X (binaryOp .Add) addD := by
  intro pins s σ H x y v u Q I rx ry ⟨w, M, d, e, z, hH, R, hx, hy, hf, k⟩
  subst hH
  have lists : ∀ {xs ys : List D}, listD M d = some xs → listD M e = some ys → (if xs.length + ys.length ≤ sizeLine then some (D.lst (xs ++ ys)) else none) = some z →
      wpAny (model X.prog X.w) X.A (binaryOp .Add v u) (EP X pins σ Q) X.xe s := fun {xs ys} h1 h2 h3 => by
    split at h3
    · rename_i hz
      cases h3
      obtain ⟨a, vs, rfl, q1, t1⟩ := listD_rd R hx h1
      obtain ⟨b, us, rfl, q2, t2⟩ := listD_rd R hy h2
      refine op_catR pins s σ _ _ _ v u Q I rx ry ⟨a, b, vs, us, rfl, rfl, q1, q2, by rw [t1.length, t2.length]; exact hz, fun p hp => ?_⟩
      exact k (w.fz p (.lst (vs ++ us))) _ (le_fz R hp) (rep_fz R hp) (.lst ⟨.inl rfl, .inl upd_same⟩ ((t1.append t2).mono (le_fz R hp)))
    · cases h3
  unfold addD at hf
  split at hf
  · cases hx; cases hy; cases hf
    exact op_add pins s σ _ _ _ v u Q I rx ry ⟨_, _, rfl, rfl, k w _ (Le.refl _) R (.int _)⟩
  · cases hx; cases hy
    rename_i x y h1 h2
    split at hf
    · rename_i hz
      cases hf
      exact op_add_str pins s σ _ _ _ v u Q I rx ry ⟨_, _, rfl, rfl, hz, k w _ (Le.refl _) R (.str _ (okS_cat h1 h2 hz))⟩
    · cases hf
  · cases hx; cases hy
    rename_i xs ys a vs f1 t1 b us f2 t2
    split at hf
    · rename_i hz
      cases hf
      refine op_catF pins s σ _ _ _ v u Q I rx ry ⟨a, b, vs, us, rfl, rfl, f1.sq, f2.sq, by rw [t1.length, t2.length]; exact hz, fun e => ?_, fun _ e => ?_, fun _ _ p o ho hp => ?_⟩
      · subst e; cases t1
        exact k w _ (Le.refl _) R (.tup f2 t2)
      · subst e; cases t2
        exact k w _ (Le.refl _) R (by rw [List.append_nil]; exact .tup f1 t1)
      · exact k (w.fz p (.frz o (.tup (vs ++ us)))) _ (le_fz R hp) (rep_fz R hp) (.tup (.inl ⟨.inl rfl, o, ho, upd_same⟩) ((t1.append t2).mono (le_fz R hp)))
    · cases hf
  · split at hf
    · rename_i h1 h2
      exact lists h1 h2 hf
    · cases hf
theorem d_sub : OpD X (binaryOp .Sub) subD := by
  intro pins s σ H x y v u Q I rx ry ⟨w, M, d, e, z, hH, R, hx, hy, hf, k⟩
  subst hH
  unfold subD at hf
  split at hf
  · cases hx; cases hy; cases hf
    exact op_sub pins s σ _ _ _ v u Q I rx ry ⟨_, _, rfl, rfl, k w _ (Le.refl _) R (.int _)⟩
  · cases hf
theorem d_mod : OpD X (binaryOp .Mod) modD := by
  intro pins s σ H x y v u Q I rx ry ⟨w, M, d, e, z, hH, R, hx, hy, hf, k⟩
  subst hH
  unfold modD at hf
  split at hf
  · split at hf
    · rename_i hj
      cases hx; cases hy; cases hf
      exact op_mod pins s σ _ _ _ v u Q I rx ry ⟨_, _, rfl, rfl, hj, k w _ (Le.refl _) R (.int _)⟩
    · cases hf
  · cases hf
theorem d_fdiv : OpD X (binaryOp .FloorDiv) fdivD := by
  intro pins s σ H x y v u Q I rx ry ⟨w, M, d, e, z, hH, R, hx, hy, hf, k⟩
  subst hH
  unfold fdivD at hf
  split at hf
  · split at hf
    · rename_i hj
      cases hx; cases hy; cases hf
      exact op_fdivW pins s σ _ _ _ v u Q I rx ry ⟨_, _, rfl, rfl, hj, k w _ (Le.refl _) R (.int _)⟩
    · cases hf
  · cases hf
theorem d_pow : OpD X (binaryOp .Pow) powD := by
  intro pins s σ H x y v u Q I rx ry ⟨w, M, d, e, z, hH, R, hx, hy, hf, k⟩
  subst hH
  unfold powD at hf
  split at hf
  · split at hf
    · rename_i hj
      cases hx; cases hy; cases hf
      exact op_pow pins s σ _ _ _ v u Q I rx ry ⟨_, _, rfl, rfl, hj, k w _ (Le.refl _) R (.int _)⟩
    · cases hf
  · cases hf
theorem reps_list (c : Array Nat) : ∀ (k : Nat) (acc : Array Nat), ((List.replicate k c).foldl (· ++ ·) acc).toList = acc.toList ++ (List.replicate k c.toList).flatten
  | 0, acc => by simp
  | k + 1, acc => by
    rw [List.replicate_succ, List.foldl_cons, reps_list c k, Array.toList_append, List.replicate_succ, List.flatten_cons, List.append_assoc]
theorem mul_cps (x : Str) (j : Int) : (Txt.mul x j).cps.toList = (List.replicate j.toNat x.cps.toList).flatten := by
  unfold Txt.mul
  by_cases h1 : j < 1
  · rw [if_pos h1, show j.toNat = 0 by omega]
    rfl
  · rw [if_neg h1]
    by_cases h2 : (j == 1 || x.length == 0) = true
    · rw [if_pos h2]
      rcases Bool.or_eq_true_iff.mp h2 with h | h
      · rw [beq_iff_eq.mp h]
        simp
      · have e : x.cps.toList = [] := by
          have : x.cps.size = 0 := beq_iff_eq.mp h
          simpa using this
        rw [e]
        simp
    · rw [if_neg h2]
      have := reps_list x.cps j.toNat #[]
      simpa using this
theorem okS_mul {x : Str} {j : Int} (h : okS x = true) (hz : x.length * j.toNat ≤ sizeLine) : okS (Txt.mul x j) = true := by
  have e := mul_cps x j
  refine okS_sub h (fun c hc => ?_) ?_
  · rw [e] at hc
    obtain ⟨l, hl, hc⟩ := List.mem_flatten.mp hc
    rw [List.eq_of_mem_replicate hl] at hc
    exact hc
  · have : (Txt.mul x j).length = ((Txt.mul x j).cps.toList).length := by simp [Str.length]
    rw [this, e]
    simp [Str.length] at *
    rw [Nat.mul_comm]; exact hz
theorem d_mul : OpD X (binaryOp .Mult) mulD := by
  intro pins s σ H x y v u Q I rx ry ⟨w, M, d, e, z, hH, R, hx, hy, hf, k⟩
  subst hH
  unfold mulD at hf
  split at hf
  · split at hf
    · rename_i hj
      cases hx; cases hy; cases hf
      have hj := mulOk_iff.mp hj
      rcases hj with hj | hj | hj
      · exact op_mul pins s σ _ _ _ v u Q I rx ry ⟨_, _, rfl, rfl, .inl hj, k w _ (Le.refl _) R (.int _)⟩
      · exact op_mul pins s σ _ _ _ v u Q I rx ry ⟨_, _, rfl, rfl, .inr hj, k w _ (Le.refl _) R (.int _)⟩
      · exact op_mulW pins s σ _ _ _ v u Q I rx ry ⟨_, _, rfl, rfl, hj, k w _ (Le.refl _) R (.int _)⟩
    · cases hf
  · cases hx; cases hy
    rename_i x j hx
    split at hf
    · rename_i hz
      cases hf
      obtain ⟨t, rfl⟩ := rx
      obtain ⟨t', rfl⟩ := ry
      have hm : MulOk x j := by
        obtain ⟨h1, h2, h3⟩ := hz
        have sl := sizeLine_eq
        refine ⟨?_, fun h1 _ => ?_, fun h1 _ => short24 (by omega)⟩
        · have a1 : ¬ j < -(2 ^ 63 : Int) := by omega
          have a2 : ¬ j ≥ (2 ^ 63 : Int) := by omega
          rw [decide_eq_false a1, decide_eq_false a2]; rfl
        · have hpos : 0 < j := by omega
          have e : ((x.length * j.toNat : Nat) : Int) = (x.length : Int) * j := by
            rw [Int.natCast_mul, Int.toNat_of_nonneg (by omega)]
          have h3 : (x.length : Int) * j ≤ 2 ^ 63 - 1 := by rw [← e]; omega
          have h4 : (x.length : Int) ≤ (2 ^ 63 - 1) / j := (Int.le_ediv_iff_mul_le hpos).mpr h3
          omega
      refine SB.mul hm fun t2 kk => ?_
      exact ⟨.str _, _, I.tok kk, ⟨_, rfl⟩, k w _ (Le.refl _) R (.str _ (okS_mul hx hz.1))⟩
    · cases hf
  · cases hy
    split at hf
    · rename_i h1
      split at hf
      · rename_i hz
        cases hf
        obtain ⟨a, vs, rfl, q1, t1⟩ := listD_rd R hx h1
        refine op_repR pins s σ _ _ _ v u Q I rx ry ⟨a, _, vs, rfl, rfl, q1, hz.2.1, hz.2.2, by rw [t1.length]; exact hz.1, fun p hp => ?_⟩
        exact k (w.fz p (.lst _)) _ (le_fz R hp) (rep_fz R hp) (.lst ⟨.inl rfl, .inl upd_same⟩ ((t1.rep _).mono (le_fz R hp)))
      · cases hf
    · cases hf
  · cases hf
end
end MM
namespace MM
open PySem PySem.Spec PyProof.Rows L2
/-! ### as plain data -/
mutual
def toPy0 : D → Option PyData
  | .non => some .none
  | .bl b => some (.bool b)
  | .int i => some (.int i)
  | .str x => some (.str x)
  | .tup xs => (toPys0 xs).map .tuple
  | .lst xs => (toPys0 xs).map .list
  | _ => none
def toPys0 : List D → Option (List PyData)
  | [] => some []
  | d :: ds => (toPy0 d).bind fun p => (toPys0 ds).map fun ps => p :: ps
end
mutual
def toPy (M : Mem) : D → Option PyData
  | .non => some .none
  | .bl b => some (.bool b)
  | .int i => some (.int i)
  | .str x => some (.str x)
  | .tup xs => (toPys M xs).map .tuple
  | .lst xs => (toPys M xs).map .list
  | .obj i => match M[i]? with | some (.lst xs) => (toPys0 xs).map .list | _ => none
  | _ => none
def toPys (M : Mem) : List D → Option (List PyData)
  | [] => some []
  | d :: ds => (toPy M d).bind fun p => (toPys M ds).map fun ps => p :: ps
end
section
variable {K : PySem.W.Frag} {w : Wd} {M : Mem}
mutual
theorem dp0 : ∀ {v : V} {d : D} {p : PyData}, Den K w v d → toPy0 d = some p → Dp K w.H v p ∧ p.canLay0 = true
  | _, _, _, .non, e => by cases e; exact ⟨.non, rfl⟩
  | _, _, _, .bl b, e => by cases e; exact ⟨.bl b, rfl⟩
  | _, _, _, .int b, e => by cases e; exact ⟨.int b, rfl⟩
  | _, _, _, .str b h, e => by cases e; exact ⟨.str b, (Bool.and_eq_true_iff.mp h).1⟩
  | _, .tup ds, _, .tup f t, e => by
    rw [toPy0] at e
    obtain ⟨ps, e1, rfl⟩ := Option.map_eq_some_iff.mp e
    obtain ⟨h1, h2⟩ := dps0 t e1
    exact ⟨.tup f.sq h1, by rw [PyData.canLay0]; exact h2⟩
  | _, .lst ds, _, .lst f t, e => by
    rw [toPy0] at e
    obtain ⟨ps, e1, rfl⟩ := Option.map_eq_some_iff.mp e
    obtain ⟨h1, h2⟩ := dps0 t e1
    exact ⟨.lst f.sq h1, by rw [PyData.canLay0]; exact h2⟩
  | _, _, _, .obj h, e => by cases e
  | _, _, _, .adr h, e => by cases e
  | _, _, _, .ty h, e => by cases e
  | _, .arg _, _, .arg _ _, e => by cases e
  | _, _, _, .glo _, e => by cases e
  | _, .ktup _, _, .ktup _ _, e => by cases e
  | _, .utup _, _, .utup _ _, e => by cases e
theorem dps0 : ∀ {vs : List V} {ds : List D} {ps : List PyData}, Dens K w vs ds → toPys0 ds = some ps → DpAll K w.H vs ps ∧ PyData.canLayAll0 ps = true
  | _, _, _, .nil, e => by cases e; exact ⟨.nil, rfl⟩
  | _, _, _, .cons h t, e => by
    rw [toPys0] at e
    obtain ⟨p, e1, e2⟩ := Option.bind_eq_some_iff.mp e
    obtain ⟨ps, e3, rfl⟩ := Option.map_eq_some_iff.mp e2
    obtain ⟨h1, h2⟩ := dp0 h e1
    obtain ⟨h3, h4⟩ := dps0 t e3
    exact ⟨.cons h1 h3, by rw [PyData.canLayAll0, h2, h4]; rfl⟩
end
mutual
theorem dp (R : Rep K w M) : ∀ {v : V} {d : D} {p : PyData}, Den K w v d → toPy M d = some p → Dp K w.H v p ∧ p.canLay0 = true
  | _, _, _, .non, e => by cases e; exact ⟨.non, rfl⟩
  | _, _, _, .bl b, e => by cases e; exact ⟨.bl b, rfl⟩
  | _, _, _, .int b, e => by cases e; exact ⟨.int b, rfl⟩
  | _, _, _, .str b h, e => by cases e; exact ⟨.str b, (Bool.and_eq_true_iff.mp h).1⟩
  | _, .tup ds, _, .tup f t, e => by
    rw [toPy] at e
    obtain ⟨ps, e1, rfl⟩ := Option.map_eq_some_iff.mp e
    obtain ⟨h1, h2⟩ := dps R t e1
    exact ⟨.tup f.sq h1, by rw [PyData.canLay0]; exact h2⟩
  | _, .lst ds, _, .lst f t, e => by
    rw [toPy] at e
    obtain ⟨ps, e1, rfl⟩ := Option.map_eq_some_iff.mp e
    obtain ⟨h1, h2⟩ := dps R t e1
    exact ⟨.lst f.sq h1, by rw [PyData.canLay0]; exact h2⟩
  | _, .obj i, _, .obj h, e => by
    rw [toPy] at e
    split at e
    · rename_i xs hc
      obtain ⟨ps, e1, rfl⟩ := Option.map_eq_some_iff.mp e
      obtain ⟨vs, h3, t⟩ := R.cells i _ hc
      obtain ⟨h1, h2⟩ := dps0 t e1
      exact ⟨.lst (.inl (.inl h3)) h1, by rw [PyData.canLay0]; exact h2⟩
    · cases e
  | _, _, _, .adr h, e => by cases e
  | _, _, _, .ty h, e => by cases e
  | _, .arg _, _, .arg _ _, e => by cases e
  | _, _, _, .glo _, e => by cases e
  | _, .ktup _, _, .ktup _ _, e => by cases e
  | _, .utup _, _, .utup _ _, e => by cases e
theorem dps (R : Rep K w M) : ∀ {vs : List V} {ds : List D} {ps : List PyData}, Dens K w vs ds → toPys M ds = some ps → DpAll K w.H vs ps ∧ PyData.canLayAll0 ps = true
  | _, _, _, .nil, e => by cases e; exact ⟨.nil, rfl⟩
  | _, _, _, .cons h t, e => by
    rw [toPys] at e
    obtain ⟨p, e1, e2⟩ := Option.bind_eq_some_iff.mp e
    obtain ⟨ps, e3, rfl⟩ := Option.map_eq_some_iff.mp e2
    obtain ⟨h1, h2⟩ := dp R h e1
    obtain ⟨h3, h4⟩ := dps R t e3
    exact ⟨.cons h1 h3, by rw [PyData.canLayAll0, h2, h4]; rfl⟩
end
end

/-! ### ==, in -/
def eqD (M : Mem) (a b : D) : Option Bool := match toPy M a, toPy M b with
  | some x, some y => if min x.depth y.depth ≤ 64 then some (PyData.eqv x y) else none
  | _, _ => none
def eqB (M : Mem) (a b : D) : Option D := (eqD M a b).map .bl
def neB (M : Mem) (a b : D) : Option D := (eqD M a b).map fun b => .bl (!b)
def subS (x y : Str) : Bool := !(Builtin.Str.occurrences y x 0 y.length 1).isEmpty
def keyD : D → Option Key
  | .int i => some (.inl i)
  | .str x => some (.inr x)
  | _ => none
def inD (M : Mem) (a b : D) : Option Bool := match b with
  | .str y => match a with | .str x => some (subS x y) | _ => none
  | .obj i => match M[i]? with
    | some (.lst xs) => match toPy M a, toPys0 xs with
      | some x, some ys => if min (PyData.depthAll ys) x.depth ≤ 64 then some (ys.any fun y => PyData.eqv y x) else none
      | _, _ => none
    | some (.dct kvs) => match keyD a with | some k => some (kvs.any fun p => decide (p.1 = k)) | none => none
    | _ => none
  | b => match seqD M b with
    | some xs => match toPy M a, toPys M xs with
      | some x, some ys => if min (PyData.depthAll ys) x.depth ≤ 64 then some (ys.any fun y => PyData.eqv y x) else none
      | _, _ => none
    | none => none
def inB (M : Mem) (a b : D) : Option D := (inD M a b).map .bl
def ninB (M : Mem) (a b : D) : Option D := (inD M a b).map fun b => .bl (!b)
section
variable {X : Cx}
theorem d_eq {k : Nat} (hr : Room k X.A) : OpD X (compareOp .Eq) eqB := by
  intro pins s σ H x y v u Q I rx ry ⟨w, M, d, e, z, hH, R, hx, hy, hf, kk⟩
  subst hH
  obtain ⟨c, hc, rfl⟩ := Option.map_eq_some_iff.mp hf
  unfold eqD at hc
  split at hc
  · rename_i p q e1 e2
    split at hc
    · rename_i hz
      cases hc
      obtain ⟨d1, c1⟩ := dp R hx e1
      obtain ⟨d2, c2⟩ := dp R hy e2
      obtain ⟨as, r1⟩ := Dp.reads I p x v d1 rx
      obtain ⟨bs, r2⟩ := Dp.reads I q y u d2 ry
      have hu := hr.units
      exact SeqAt.compareEq_reads r1 r2 c1 c2 (by omega) ⟨.bl _, w.H, I, rfl, kk w _ (Le.refl _) R (.bl _)⟩
    · cases hc
  · cases hc
theorem d_ne {k : Nat} (hr : Room k X.A) : OpD X (compareOp .NotEq) neB := by
  intro pins s σ H x y v u Q I rx ry ⟨w, M, d, e, z, hH, R, hx, hy, hf, kk⟩
  subst hH
  obtain ⟨c, hc, rfl⟩ := Option.map_eq_some_iff.mp hf
  unfold eqD at hc
  split at hc
  · rename_i p q e1 e2
    split at hc
    · rename_i hz
      cases hc
      obtain ⟨d1, c1⟩ := dp R hx e1
      obtain ⟨d2, c2⟩ := dp R hy e2
      obtain ⟨as, r1⟩ := Dp.reads I p x v d1 rx
      obtain ⟨bs, r2⟩ := Dp.reads I q y u d2 ry
      have hu := hr.units
      exact SeqAt.compareNe_reads r1 r2 c1 c2 (by omega) ⟨.bl _, w.H, I, rfl, kk w _ (Le.refl _) R (.bl _)⟩
    · cases hc
  · cases hc
/-- in over what is read -/
theorem in_read {k : Nat} (hr : Room k X.A) {pins : List (Addr × Obj)} {s : Shared} {σ : L2.St} {w : Wd} {M : Mem} {x : V} {v : Value} {a : Addr} {vs : List V} {d : D} {px : PyData} {ps : List PyData} (neg : Bool) {Q : Value → Shared → Prop}
    (I : Inv X pins σ w.H s) (R : Rep X.K w M) (rx : RelV x v) (hx : Den X.K w x d) (e1 : toPy M d = some px) (hq : SqL X.K w.H a vs ∨ SqT X.K w.H a vs) (hd : DpAll X.K w.H vs ps) (hl : PyData.canLayAll0 ps = true) (hz : min (PyData.depthAll ps) px.depth ≤ 64)
    (q : Q (.bool (if neg then !(ps.any fun y => PyData.eqv y px) else ps.any fun y => PyData.eqv y px)) s) : wpAny (model X.prog X.w) X.A (compareOp (if neg then .NotIn else .In) v (.ref a)) Q X.xe s := by
  obtain ⟨d1, c1⟩ := dp R hx e1
  obtain ⟨bs, r1⟩ := Dp.reads I px x v d1 rx
  have hu := hr.un
  rcases hq with hq | hq
  · obtain ⟨its, rv, pl, hlen⟩ := I.list hq
    obtain ⟨as, h4⟩ := Dp.readsAll I ps _ its hd rv
    have h5 : ReadsAll s.heap its.toArray.toList ps as := h4
    have it := SeqAt.items_eqAt h5 r1 hl c1 (A := X.A) (by omega)
    cases neg with
    | false => exact SeqAt.in_listAt _ pl.isList it (by rw [SeqAt.any_by_data h5 hl]; exact q)
    | true => exact SeqAt.notIn_listAt _ pl.isList it (by rw [SeqAt.any_by_data h5 hl]; exact q)
  · obtain ⟨its, rv, pl, hlen⟩ := I.tuple hq
    obtain ⟨as, h4⟩ := Dp.readsAll I ps _ its hd rv
    have h5 : ReadsAll s.heap its.toArray.toList ps as := h4
    have it := SeqAt.items_eqAt h5 r1 hl c1 (A := X.A) (by omega)
    cases neg with
    | false => exact SeqAt.in_tupleAt _ pl it (by rw [SeqAt.any_by_data h5 hl]; exact q)
    | true => exact SeqAt.notIn_tupleAt _ pl it (by rw [SeqAt.any_by_data h5 hl]; exact q)

theorem any_key {κ : Type} [DecidableEq κ] {α β : Type} {ps : List (κ × α)} {kvs : List (κ × β)} (h : ps.map (·.1) = kvs.map (·.1)) (k : κ) : (ps.any fun p => decide (p.1 = k)) = kvs.any fun p => decide (p.1 = k) := by
  have e1 : (ps.any fun p => decide (p.1 = k)) = (ps.map (·.1)).any fun c => decide (c = k) := by rw [List.any_map]; rfl
  have e2 : (kvs.any fun p => decide (p.1 = k)) = (kvs.map (·.1)).any fun c => decide (c = k) := by rw [List.any_map]; rfl
  rw [e1, e2, h]
theorem keyD_V {K : PySem.W.Frag} {w : Wd} {v : V} {d : D} {k : Key} (h : Den K w v d) (e : keyD d = some k) : v = kV k := by
  cases h with
  | int i => cases e; rfl
  | str x _ => cases e; rfl
  | _ => cases e
theorem in_gen {k : Nat} (hr : Room k X.A) (neg : Bool) {f : Mem → D → D → Option D} (hf : ∀ M a b, f M a b = (inD M a b).map fun c => .bl (if neg then !c else c)) : OpD X (compareOp (if neg then .NotIn else .In)) f := by
  intro pins s σ H x y v u Q I rx ry ⟨w, M, d, e, z, hH, R, hx, hy, hz0, kk⟩
  subst hH
  rw [hf] at hz0
  obtain ⟨c, hc, rfl⟩ := Option.map_eq_some_iff.mp hz0
  have fin : EP X pins σ Q (.bool (if neg then !c else c)) s := ⟨.bl _, w.H, I, rfl, kk w _ (Le.refl _) R (.bl _)⟩
  have hu := hr.un
  unfold inD at hc
  split at hc
  · -- texts
    split at hc
    · cases hc
      cases hx; cases hy
      obtain ⟨t, rfl⟩ := rx
      obtain ⟨t', rfl⟩ := ry
      cases neg with
      | false => exact in_str fin
      | true => exact notIn_str fin
    · cases hc
  · rename_i i
    split at hc
    · rename_i xs hm
      split at hc
      · rename_i px ps e1 e2
        split at hc
        · rename_i hz
          cases hc
          cases hy
          obtain ⟨vs, h3, t⟩ := R.cells i _ hm
          obtain ⟨h4, h5⟩ := dps0 t e2
          cases (show u = Value.ref _ from ry)
          exact in_read hr neg I R rx hx e1 (.inl (.inl (.inl h3))) h4 h5 hz fin
        · cases hc
      · cases hc
    · rename_i kvs hm
      split at hc
      · rename_i k e1
        cases hc
        cases hy
        obtain ⟨ps, h3, hk, t⟩ := R.cells i _ hm
        cases (show u = Value.ref _ from ry)
        rw [keyD_V hx e1] at rx
        have ea : (valV ps k).isSome = kvs.any fun p => decide (p.1 = k) := by rw [← valV_any, any_key hk]
        cases neg with
        | false => exact d_in (by omega) I (DGet.k (k := k) h3) rx fun s' I' => ⟨.bl _, w.H, I', by rw [ea]; rfl, kk w _ (Le.refl _) R (.bl _)⟩
        | true => exact d_notIn (by omega) I (DGet.k (k := k) h3) rx fun s' I' => ⟨.bl _, w.H, I', by rw [ea]; rfl, kk w _ (Le.refl _) R (.bl _)⟩
      · cases hc
    · cases hc
  · split at hc
    · rename_i xs hm
      split at hc
      · rename_i px ps e1 e2
        split at hc
        · rename_i hz
          cases hc
          obtain ⟨a, vs, rfl, hq, t⟩ := seqD_rd R hy hm
          obtain ⟨h4, h5⟩ := dps R t e2
          cases (show u = Value.ref _ from ry)
          exact in_read hr neg I R rx hx e1 hq h4 h5 hz fin
        · cases hc
      · cases hc
    · cases hc
theorem d_in_ {k : Nat} (hr : Room k X.A) : OpD X (compareOp .In) inB := in_gen hr false fun _ _ _ => rfl
theorem d_nin {k : Nat} (hr : Room k X.A) : OpD X (compareOp .NotIn) ninB := in_gen hr true fun _ _ _ => rfl

/-! ### the order, is -/
def cpsLt (x y : Str) : Bool := decide (x.cps.toList < y.cps.toList)
def ltB (_ : Mem) : D → D → Option D
  | .int i, .int j => some (.bl (decide (i < j)))
  | .str x, .str y => some (.bl (cpsLt x y))
  | _, _ => none
def gtB (_ : Mem) : D → D → Option D
  | .int i, .int j => some (.bl (decide (j < i)))
  | .str x, .str y => some (.bl (cpsLt y x))
  | _, _ => none
def leB (_ : Mem) : D → D → Option D
  | .int i, .int j => some (.bl (decide (i ≤ j)))
  | .str x, .str y => some (.bl (!cpsLt y x))
  | _, _ => none
def geB (_ : Mem) : D → D → Option D
  | .int i, .int j => some (.bl (decide (j ≤ i)))
  | .str x, .str y => some (.bl (!cpsLt x y))
  | _, _ => none
theorem d_ord {op : CmpOp} {f : Mem → D → D → Option D} {gI : Int → Int → Bool} {gS : Str → Str → Bool} (hI : OpR X (compareOp op) (rI0 fun i j => .bl (gI i j)))
    (hS : OpR X (compareOp op) (fun x y H Q => ∃ i j, x = .str i ∧ y = .str j ∧ Q (.bl (gS i j)) H))
    (hf : ∀ M a b z, f M a b = some z → (∃ i j, a = .int i ∧ b = .int j ∧ z = .bl (gI i j)) ∨ ∃ x y, a = .str x ∧ b = .str y ∧ z = .bl (gS x y)) : OpD X (compareOp op) f := by
  intro pins s σ H x y v u Q I rx ry ⟨w, M, d, e, z, hH, R, hx, hy, hz, kk⟩
  subst hH
  rcases hf M d e z hz with ⟨i, j, rfl, rfl, rfl⟩ | ⟨i, j, rfl, rfl, rfl⟩
  · cases hx; cases hy
    exact hI pins s σ _ _ _ v u Q I rx ry ⟨i, j, rfl, rfl, kk w _ (Le.refl _) R (.bl _)⟩
  · cases hx; cases hy
    exact hS pins s σ _ _ _ v u Q I rx ry ⟨i, j, rfl, rfl, kk w _ (Le.refl _) R (.bl _)⟩
theorem d_lt : OpD X (compareOp .Lt) ltB := d_ord (gS := cpsLt) op_lt op_lt_str fun M a b z h => by
  unfold ltB at h; split at h
  · cases h; exact .inl ⟨_, _, rfl, rfl, rfl⟩
  · cases h; exact .inr ⟨_, _, rfl, rfl, rfl⟩
  · cases h
theorem d_gt : OpD X (compareOp .Gt) gtB := d_ord (gS := fun x y => cpsLt y x) op_gt op_gt_str fun M a b z h => by
  unfold gtB at h; split at h
  · cases h; exact .inl ⟨_, _, rfl, rfl, rfl⟩
  · cases h; exact .inr ⟨_, _, rfl, rfl, rfl⟩
  · cases h
theorem d_le : OpD X (compareOp .LtE) leB := d_ord (gS := fun x y => !cpsLt y x) op_le op_le_str fun M a b z h => by
  unfold leB at h; split at h
  · cases h; exact .inl ⟨_, _, rfl, rfl, rfl⟩
  · cases h; exact .inr ⟨_, _, rfl, rfl, rfl⟩
  · cases h
theorem d_ge : OpD X (compareOp .GtE) geB := d_ord (gS := fun x y => !cpsLt x y) op_ge op_ge_str fun M a b z h => by
  unfold geB at h; split at h
  · cases h; exact .inl ⟨_, _, rfl, rfl, rfl⟩
  · cases h; exact .inr ⟨_, _, rfl, rfl, rfl⟩
  · cases h
/-- is None, is True, is False -/
def isB (_ : Mem) (a b : D) : Option D := match b with
  | .non => some (.bl (match a with | .non => true | _ => false))
  | .bl c => some (.bl (match a with | .bl e => e == c | _ => false))
  | _ => none
def isntB (_ : Mem) (a b : D) : Option D := match b with
  | .non => some (.bl (match a with | .non => false | _ => true))
  | .bl c => some (.bl (match a with | .bl e => e != c | _ => true))
  | _ => none
theorem is_bool_gen {M : Model} {A : Around} {E : Value → Shared → Prop} {Q : Value → Shared → Prop} {s : Shared} {v : Value} {b : Bool} {x : V} (r : RelV x v) (h : Q (.bool (v == .bool b)) s) : wpAny M A (compareOp .Is v (.bool b)) Q E s := by
  cases x with
  | non => cases r; exact wpAny_pure h
  | bl b => cases (show v = Value.bool b from r); exact wpAny_pure h
  | int _ => obtain ⟨t, rfl⟩ := r; exact wpAny_pure h
  | str _ => obtain ⟨t, rfl⟩ := r; exact wpAny_pure h
  | byt _ => obtain ⟨t, rfl⟩ := r; exact wpAny_pure h
  | flt _ => obtain ⟨t, rfl⟩ := r; exact wpAny_pure h
  | ref _ => cases r; exact wpAny_pure h
  | ty _ => cases r; exact wpAny_pure h
theorem isnot_bool_gen {M : Model} {A : Around} {E : Value → Shared → Prop} {Q : Value → Shared → Prop} {s : Shared} {v : Value} {b : Bool} {x : V} (r : RelV x v) (h : Q (.bool (!(v == .bool b))) s) : wpAny M A (compareOp .IsNot v (.bool b)) Q E s := by
  cases x with
  | non => cases r; exact wpAny_pure h
  | bl b => cases (show v = Value.bool b from r); exact wpAny_pure h
  | int _ => obtain ⟨t, rfl⟩ := r; exact wpAny_pure h
  | str _ => obtain ⟨t, rfl⟩ := r; exact wpAny_pure h
  | byt _ => obtain ⟨t, rfl⟩ := r; exact wpAny_pure h
  | flt _ => obtain ⟨t, rfl⟩ := r; exact wpAny_pure h
  | ref _ => cases r; exact wpAny_pure h
  | ty _ => cases r; exact wpAny_pure h
theorem RelV.bool_iff {x : V} {v : Value} (r : RelV x v) (c : Bool) : (v == Value.bool c) = decide (x = .bl c) := by
  cases x with
  | non => cases r; rfl
  | bl b => cases (show v = Value.bool b from r); cases b <;> cases c <;> rfl
  | int _ => obtain ⟨t, rfl⟩ := r; rfl
  | str _ => obtain ⟨t, rfl⟩ := r; rfl
  | byt _ => obtain ⟨t, rfl⟩ := r; rfl
  | flt _ => obtain ⟨t, rfl⟩ := r; rfl
  | ref _ => cases r; rfl
  | ty _ => cases r; rfl
theorem d_is : OpD X (compareOp .Is) isB := by
  intro pins s σ H x y v u Q I rx ry ⟨w, M, d, e, z, hH, R, hx, hy, hf, kk⟩
  subst hH
  unfold isB at hf
  split at hf
  · cases hf; cases hy
    cases (show u = Value.none from ry)
    refine is_none_gen ⟨.bl _, w.H, I, ?_, kk w _ (Le.refl _) R (.bl _)⟩
    rw [L2.RelV.none_iff rx]
    cases hx <;> rfl
  · cases hf; cases hy
    rename_i c
    cases (show u = Value.bool c from ry)
    refine is_bool_gen rx ⟨.bl _, w.H, I, ?_, kk w _ (Le.refl _) R (.bl _)⟩
    rw [RelV.bool_iff rx]
    cases hx <;> first | rfl | (rename_i b; cases b <;> cases c <;> rfl)
  · cases hf
theorem d_isnt : OpD X (compareOp .IsNot) isntB := by
  intro pins s σ H x y v u Q I rx ry ⟨w, M, d, e, z, hH, R, hx, hy, hf, kk⟩
  subst hH
  unfold isntB at hf
  split at hf
  · cases hf; cases hy
    cases (show u = Value.none from ry)
    refine isnot_none_gen ⟨.bl _, w.H, I, ?_, kk w _ (Le.refl _) R (.bl _)⟩
    rw [L2.RelV.none_iff rx]
    cases hx <;> rfl
  · cases hf; cases hy
    rename_i c
    cases (show u = Value.bool c from ry)
    refine isnot_bool_gen rx ⟨.bl _, w.H, I, ?_, kk w _ (Le.refl _) R (.bl _)⟩
    rw [RelV.bool_iff rx]
    cases hx <;> first | rfl | (rename_i b; cases b <;> cases c <;> rfl)
  · cases hf
end
end MM
namespace MM
open PySem PySem.Spec PyProof.Rows L2
open Classical in
/-! ### what is walked -/
/-- J walks the items ds; the cell at g (where there is one) holds them meanwhile -/
def Walks (K : PySem.W.Frag) (J : It) (w0 : Wd) (ds : List D) (g : Option Nat) : Prop := ∀ w M, Lw w0 w → Rep K w M → (∀ i, g = some i → M[i]? = some (.lst ds)) → ∀ i : Nat,
  (∀ d, ds[i]? = some d → J.go i w.H ∧ ∀ x H', J.yld i w.H x H' → ∃ w', w'.H = H' ∧ Le w w' ∧ Rep K w' M ∧ Den K w' x d) ∧ (ds.length ≤ i → i ≤ ds.length → J.stop i w.H)
abbrev MI := MX (List D × Option Nat)
def tI (K : PySem.W.Frag) (W : WX) (m : MI) : TI := fun σ H R => ∃ w s M, w.H = H ∧ Rep K w M ∧ SlotR K w σ s ∧
  PostG K W w σ (fun dg w' => ∀ J, Walks K J w' dg.1 dg.2 → R J w'.H) (m s M)
def guardOk (M : Mem) (ds : List D) (g : Option Nat) : Prop := ∀ i, g = some i → M[i]? = some (.lst ds)
section
variable {X : Cx} {W : WX} {tg : Expr} {pos : Pos}
theorem PI.imp {iter : Expr} {t t' : TI} (h : PI X tg iter t) (k : ∀ σ H Q, t' σ H Q → t σ H Q) : PI X tg iter t' := ⟨fun pins s σ H Q I q => h.run pins s σ H Q I (k σ H Q q)⟩
theorem walks_tup {K : PySem.W.Frag} {w : Wd} {a : Addr} {vs : List V} {ds : List D} (f : FrT K w a vs) (t : Dens K w vs ds) : Walks K (Itt K a) w ds none := fun w2 M l R _ i => by
  have f2 := (f.mow l).sq
  have t2 := t.mow l
  refine ⟨fun d e => ?_, fun h _ => ⟨vs, f2, by rw [t.length]; exact h⟩⟩
  obtain ⟨v, ev, dv⟩ := t2.get e
  refine ⟨⟨vs, v, f2, ev⟩, fun x H' y => ⟨w2, y.1.symm, Le.refl _, R, ?_⟩⟩
  have := y.2 vs f2
  rw [ev] at this
  cases this
  exact dv
theorem walks_lst {K : PySem.W.Frag} {w : Wd} {a : Addr} {vs : List V} {ds : List D} (f : FrL w a vs) (t : Dens K w vs ds) : Walks K (Itl K a) w ds none := fun w2 M l R _ i => by
  have f2 : SqL K w2.H a vs := (f.mow l).sq
  have t2 := t.mow l
  refine ⟨fun d e => ?_, fun h _ => ⟨vs, f2, by rw [t.length]; exact h⟩⟩
  obtain ⟨v, ev, dv⟩ := t2.get e
  refine ⟨⟨vs, v, f2, ev⟩, fun x H' y => ⟨w2, y.1.symm, Le.refl _, R, ?_⟩⟩
  have := y.2 vs f2
  rw [ev] at this
  cases this
  exact dv
theorem walks_arg {K : PySem.W.Frag} {w : Wd} {a : Addr} {vs : List V} {ds : List D} (f : FrA K w a vs) (t : Dens K w vs ds) : Walks K (Itl K a) w ds none := fun w2 M l R _ i => by
  have f2 : SqL K w2.H a vs := (f.mow l).sq
  have t2 := t.mow l
  refine ⟨fun d e => ?_, fun h _ => ⟨vs, f2, by rw [t.length]; exact h⟩⟩
  obtain ⟨v, ev, dv⟩ := t2.get e
  refine ⟨⟨vs, v, f2, ev⟩, fun x H' y => ⟨w2, y.1.symm, Le.refl _, R, ?_⟩⟩
  have := y.2 vs f2
  rw [ev] at this
  cases this
  exact dv
theorem walks_cell {K : PySem.W.Frag} {w : Wd} {j : Nat} {ds : List D} (hj : j < w.n) : Walks K (Itl K (w.r j)) w ds (some j) := fun w2 M l R g i => by
  obtain ⟨vs, h1, t2⟩ := R.cells j _ (g j rfl)
  rw [l.r j hj] at h1
  have f2 : SqL K w2.H (w.r j) vs := .inl (.inl h1)
  refine ⟨fun d e => ?_, fun h _ => ⟨vs, f2, by rw [t2.length]; exact h⟩⟩
  obtain ⟨v, ev, dv⟩ := t2.get e
  refine ⟨⟨vs, v, f2, ev⟩, fun x H' y => ⟨w2, y.1.symm, Le.refl _, R, ?_⟩⟩
  have := y.2 vs f2
  rw [ev] at this
  cases this
  exact dv
/-- a text's signs -/
def strD (x : Str) : List D := x.cps.toList.map fun c => .str ⟨#[c]⟩
theorem okS_one {x : Str} {c : Nat} (h : okS x = true) (hc : c ∈ x.cps.toList) : okS ⟨#[c]⟩ = true :=
  okS_sub h (fun e he => by simp at he; rw [he]; simpa using hc) (by show 1 ≤ sizeLine; decide)
theorem walks_str {K : PySem.W.Frag} {w : Wd} {x : Str} (hx : okS x = true) : Walks K (Its x) w (strD x) none := fun w2 M l R _ i => by
  refine ⟨fun d e => ?_, fun h _ => ?_⟩
  · unfold strD at e
    rw [List.getElem?_map] at e
    obtain ⟨c, e1, rfl⟩ := Option.map_eq_some_iff.mp e
    have hi : i < x.cps.size := by
      have := (List.getElem?_eq_some_iff.mp e1).1
      simpa using this
    refine ⟨hi, fun v H' y => ⟨w2, y.1.symm, Le.refl _, R, ?_⟩⟩
    obtain ⟨_, c2, e2, rfl⟩ := y
    rw [Array.getElem?_toList] at e1
    rw [e1] at e2
    cases e2
    exact .str _ (okS_one hx (List.mem_of_getElem? (by rw [Array.getElem?_toList]; exact e1)))
  · show x.cps.size ≤ i
    unfold strD at h
    simpa using h
/-- a list, a tuple, a text -/
def iSeq (m : ME) : MI := fun s M => (m s M).bind fun d M' => match d with
  | .str x => .ok (strD x, none) M'
  | .tup ds => .ok (ds, none) M'
  | .lst ds => .ok (ds, none) M'
  | .arg ds => .ok (ds, none) M'
  | .ktup ds => .ok (ds, none) M'
  | .obj i => match M'[i]? with | some (.lst ds) => .ok (ds, some i) M' | _ => .no
  | _ => .no
theorem pi_or {e : Expr} {te : TE} (he : PE X e te) : PI X tg e (fun σ H R => te σ H fun x H1 => (∃ a, x = .ref a ∧ (∃ xs, SqL X.K H1 a xs) ∧ R (Itl X.K a) H1) ∨ (∃ a, x = .ref a ∧ (∃ xs, SqT X.K H1 a xs) ∧ R (Itt X.K a) H1) ∨ ∃ z, x = .str z ∧ R (Its z) H1) := by
  refine ⟨fun pins s σ H R I h => ?_⟩
  refine thn (he.run pins s σ H _ I h) fun v s1 ⟨x, H1, I1, r1, q1⟩ => ?_
  rcases q1 with ⟨a, e, ⟨xs, hq⟩, q⟩ | ⟨a, e, ⟨xs, hq⟩, q⟩ | ⟨z, e, q⟩
  · subst e
    cases r1
    obtain ⟨its, rv, p, hz⟩ := I1.list hq
    refine wpAny_pyIter_list p.isList ?_
    refine ⟨s1.heap.objs.size, [s1.heap.objs.size], _, _, H1, rfl, I1.kept (t' := s1.toks) fun b o e => Heap.get?_push_of_some _ e, turn_list a _, ⟨_, Heap.get?_push_size _ rfl, rfl, rfl⟩, fun b hb => ?_, q⟩
    have e : b = s1.heap.objs.size := by simpa using hb
    subst e
    exact I1.fpOk (Nat.le_refl _) (I1.hok.fresh (Nat.le_refl _))
  · subst e
    cases r1
    obtain ⟨its, rv, p, hz⟩ := I1.tuple hq
    refine wpAny_pyIter_tuple (show s1.heap.IsTuple a its.toArray from p) ?_
    refine ⟨s1.heap.objs.size, [s1.heap.objs.size], _, _, H1, rfl, I1.kept (t' := s1.toks) fun b o e => Heap.get?_push_of_some _ e, turn_tuple a _, ⟨_, Heap.get?_push_size _ rfl, rfl, rfl⟩, fun b hb => ?_, q⟩
    have e : b = s1.heap.objs.size := by simpa using hb
    subst e
    exact I1.fpOk (Nat.le_refl _) (I1.hok.fresh (Nat.le_refl _))
  · subst e
    obtain ⟨t, rfl⟩ := r1
    cases ha : z.cps.all (· < 128)
    · exact wpAny_pyIter_wide ha (pi_one (tk := s1.toks) I1 _ (turn_str _ z t "str_iterator" (.inr rfl)) ⟨_, Heap.get?_push_size _ rfl, rfl, rfl⟩ q)
    · exact wpAny_pyIter_ascii ha (pi_one (tk := s1.toks) I1 _ (turn_str _ z t "str_ascii_iterator" (.inl rfl)) ⟨_, Heap.get?_push_size _ rfl, rfl, rfl⟩ q)
theorem s_iseq {e : Expr} {m : ME} (he : PE X e (tE X.K W m)) : PI X tg e (tI X.K W (iSeq m)) :=
  PI.imp (pi_or he) fun σ H R ⟨w, s, M, hH, Rp, S, h⟩ => by
    subst hH
    refine tE_bind Rp S h fun d M' w' v l R' q P => ?_
    cases q with
    | str x hx => exact .inr (.inr ⟨_, rfl, P w' (Le.refl _) R' _ (walks_str hx)⟩)
    | tup f t => exact .inr (.inl ⟨_, rfl, ⟨_, f.sq⟩, P w' (Le.refl _) R' _ (walks_tup f t)⟩)
    | lst f t => exact .inl ⟨_, rfl, ⟨_, f.sq⟩, P w' (Le.refl _) R' _ (walks_lst f t)⟩
    | ktup f t => exact .inr (.inl ⟨_, rfl, ⟨_, FrT.sq (w := w') f.t⟩, P w' (Le.refl _) R' _ (walks_tup f.t t)⟩)
    | arg f t => exact .inl ⟨_, rfl, ⟨_, f.sq⟩, P w' (Le.refl _) R' _ (walks_arg f t)⟩
    | obj hi =>
      rename_i i
      dsimp only at P
      split at P
      · rename_i ds hm
        obtain ⟨vs, h1, t⟩ := R'.cells i _ hm
        exact .inl ⟨_, rfl, ⟨vs, .inl (.inl h1)⟩, P w' (Le.refl _) R' _ (walks_cell hi)⟩
      · exact P.elim
    | _ => exact P.elim
/-- range(n), range(a, b) -/
def rng (i : Int) (n : Nat) : List D := (List.range n).map fun (k : Nat) => D.int (i + k)
noncomputable def iRange1 (m : ME) : MI := fun s M => (m s M).bind fun d M' => match d with
  | .int j => ifC (-(2 ^ 62) ≤ j ∧ j < 2 ^ 62) (.ok (rng 0 j.toNat, none) M') .no
  | _ => .no
noncomputable def iRange2 (ma mb : ME) : MI := fun s M => (ma s M).bind fun d M1 => (mb s M1).bind fun e M' => match d, e with
  | .int i, .int j => ifC (-(2 ^ 62) ≤ i ∧ i < 2 ^ 62 ∧ -(2 ^ 62) ≤ j ∧ j < 2 ^ 62) (.ok (rng i (j - i).toNat, none) M') .no
  | _, _ => .no
theorem walks_range {K : PySem.W.Frag} {w : Wd} (lo : Int) (n : Nat) : Walks K (Itr lo n) w (rng lo n) none := fun w2 M l R _ i => by
  unfold rng
  refine ⟨fun d e => ?_, fun h _ => by show n ≤ i; simpa using h⟩
  rw [List.getElem?_map] at e
  obtain ⟨k, e1, rfl⟩ := Option.map_eq_some_iff.mp e
  have hi := List.getElem?_eq_some_iff.mp e1
  obtain ⟨hi, ek⟩ := hi
  simp at hi ek
  subst ek
  exact ⟨hi, fun x H' y => ⟨w2, y.1.symm, Le.refl _, R, by rw [y.2]; exact .int _⟩⟩
theorem s_range1 {a : Expr} {m : ME} {p : Pos} (ha : PE X a (tE X.K W m)) (hm : X.mg "range" = none) (hg : Gl X "range" := by rfl) (hs : starEach [a] X.env = [(false, eval a X.env)] := by rfl) : PI X tg (.Call (.Name "range" p) [a] [] pos) (tI X.K W (iRange1 m)) :=
  PI.imp (pi_range1 hg hm (pa_cons ha pa_nil hs) hs) fun σ H R ⟨w, s, M, hH, Rp, S, h⟩ => by
    subst hH
    show tE X.K W m σ w.H fun x H1 => ∃ j : Int, [x] = [V.int j] ∧ -(2 ^ 62) ≤ j ∧ j < 2 ^ 62 ∧ R (Itr 0 j.toNat) H1
    refine tE_bind Rp S h fun d M' w' v l R' q P => ?_
    cases q with
    | int j =>
      dsimp only at P
      by_cases hz : -(2 ^ 62) ≤ j ∧ j < 2 ^ 62
      · rw [ifC_pos hz] at P
        exact ⟨j, rfl, hz.1, hz.2, P w' (Le.refl _) R' _ (walks_range _ _)⟩
      · rw [ifC_neg hz] at P
        exact P.elim
    | _ => exact P.elim
theorem s_range2 {a b : Expr} {ma mb : ME} {p : Pos} (ha : PE X a (tE X.K W ma)) (hb : PE X b (tE X.K W mb)) (hm : X.mg "range" = none) (hg : Gl X "range" := by rfl)
    (hs : starEach [a, b] X.env = [(false, eval a X.env), (false, eval b X.env)] := by rfl) (hs2 : starEach [b] X.env = [(false, eval b X.env)] := by rfl) : PI X tg (.Call (.Name "range" p) [a, b] [] pos) (tI X.K W (iRange2 ma mb)) :=
  PI.imp (pi_range2 hg hm (pa_cons ha (pa_cons hb pa_nil hs2) (by rw [hs, hs2])) hs hs2) fun σ H R ⟨w, s, M, hH, Rp, S, h⟩ => by
    subst hH
    show tE X.K W ma σ w.H fun x H1 => tE X.K W mb σ H1 fun y H2 => ∃ i j : Int, [x, y] = [V.int i, V.int j] ∧ (-(2 ^ 62) ≤ i ∧ i < 2 ^ 62 ∧ -(2 ^ 62) ≤ j ∧ j < 2 ^ 62) ∧ R (Itr i (j - i).toNat) H2
    refine tE_bind Rp S h fun d M' w' v l R' q P => ?_
    refine tE_bind R' (S.mono l) P fun d2 M2 w2 v2 l2 R2 q2 P2 => ?_
    cases q with
    | int i =>
      cases q2 with
      | int j =>
        dsimp only at P2
        by_cases hz : -(2 ^ 62) ≤ i ∧ i < 2 ^ 62 ∧ -(2 ^ 62) ≤ j ∧ j < 2 ^ 62
        · rw [ifC_pos hz] at P2
          exact ⟨i, j, rfl, hz, P2 w2 (Le.refl _) R2 _ (walks_range _ _)⟩
        · rw [ifC_neg hz] at P2
          exact P2.elim
      | _ => exact P2.elim
    | _ => exact P2.elim

/-! ### targets -/
abbrev TgM := D → Sl → Option Sl
def gSet (i : Nat) : TgM := fun d s => some (s.set i (some d))
/-- ts: the slots that the target stores into -/
def OutOf (ts : List Nat) (σ σ' : L2.St) : Prop := σ'.length = σ.length ∧ ∀ i : Nat, i ∉ ts → σ'[i]? = σ[i]?
def tG (K : PySem.W.Frag) (ts : List Nat) (f : TgM) : TG := fun v σ H Q => ∃ w s M d s', w.H = H ∧ Rep K w M ∧ SlotR K w σ s ∧ Den K w v d ∧ f d s = some s' ∧ ∀ σ', SlotR K w σ' s' → OutOf ts σ σ' → Q σ' H
theorem PG.imp {e : Expr} {t t' : TG} (h : PG X e t) (k : ∀ v σ H Q, t' v σ H Q → t v σ H Q) : PG X e t' := ⟨fun pins s σ H v u Q I r q => h.run pins s σ H v u Q I r (k v σ H Q q)⟩
theorem PGs.imp {e : List Expr} {t t' : TGs} (h : PGs X e t) (k : ∀ v σ H Q, t' v σ H Q → t v σ H Q) : PGs X e t' := ⟨fun pins s σ H v u Q I r q => h.run pins s σ H v u Q I r (k v σ H Q q)⟩
theorem s_gname (i : Nat) {x : Str} (hN : X.N.Nodup) (hi : X.N[i]? = some x := by rfl) (hx : Loc X.env.scope x := by first | exact Or.inl rfl | exact Or.inr rfl) (hf : X.fn x = true ∨ X.env.scope.names.lookup x = some .local := by first | exact .inl rfl | exact .inr rfl) : PG X (.Name x pos) (tG X.K [i] (gSet i)) :=
  PG.imp (pg_name hN hi hx hf) fun v σ H Q ⟨w, s, M, d, s', hH, R, S, q, e, k⟩ => by
    cases e
    exact k _ (S.set q i) ⟨by simp, fun j hj => List.getElem?_set_ne (by intro e; exact hj (by simp [e]))⟩
def unAll : List TgM → List D → Sl → Option Sl
  | [], [], s => some s
  | f :: fs, d :: ds, s => (f d s).bind (unAll fs ds)
  | _, _, _ => none
def gTupM (fs : List TgM) : TgM := fun d s => match d with | .tup ds => unAll fs ds s | .utup ds => unAll fs ds s | _ => none
def tGs (K : PySem.W.Frag) (ts : List Nat) (fs : List TgM) : TGs := fun vs σ H Q => ∃ w s M ds s', w.H = H ∧ Rep K w M ∧ SlotR K w σ s ∧ Dens K w vs ds ∧ unAll fs ds s = some s' ∧ ∀ σ', SlotR K w σ' s' → OutOf ts σ σ' → Q σ' H
theorem s_gnil : PGs X [] (tGs X.K [] []) := PGs.imp pgs_nil fun vs σ H Q ⟨w, s, M, ds, s', hH, R, S, q, e, k⟩ => by
  cases q with
  | nil => cases e; exact ⟨rfl, k _ S ⟨rfl, fun _ _ => rfl⟩⟩
  | cons _ _ => cases e
theorem s_gcons {e : Expr} {es : List Expr} {f : TgM} {fs : List TgM} {t1 t2 : List Nat} (h1 : PG X e (tG X.K t1 f)) (h2 : PGs X es (tGs X.K t2 fs)) (hs : (assignEach (e :: es) X.env).map (·.2) = assign e X.env :: (assignEach es X.env).map (·.2) := by rfl) : PGs X (e :: es) (tGs X.K (t1 ++ t2) (f :: fs)) :=
  PGs.imp (pgs_cons h1 h2 hs) fun vs σ H Q ⟨w, s, M, ds, s', hH, R, S, q, e, k⟩ => by
    cases q with
    | nil => cases e
    | cons q1 q2 =>
      obtain ⟨s1, e1, e2⟩ := Option.bind_eq_some_iff.mp e
      exact ⟨_, _, rfl, ⟨w, s, M, _, s1, hH, R, S, q1, e1, fun σ1 S1 o1 => ⟨w, s1, M, _, s', hH, R, S1, q2, e2, fun σ2 S2 o2 => k σ2 S2 ⟨o2.1.trans o1.1, fun i hi => (o2.2 i (fun z => hi (List.mem_append_right _ z))).trans (o1.2 i fun z => hi (List.mem_append_left _ z))⟩⟩⟩⟩
theorem unAll_len : ∀ {fs : List TgM} {ds : List D} {s s' : Sl}, unAll fs ds s = some s' → ds.length = fs.length
  | [], [], _, _, _ => rfl
  | f :: fs, d :: ds, s, s', e => by
    obtain ⟨s1, e1, e2⟩ := Option.bind_eq_some_iff.mp e
    exact congrArg (· + 1) (unAll_len e2)
  | [], _ :: _, _, _, e => by cases e
  | _ :: _, [], _, _, e => by cases e
theorem s_gtup {es : List Expr} {k : Nat} {fs : List TgM} {n : Nat} {ts : List Nat} (hc : X.calm = true) (h : PGs X es (tGs X.K ts fs)) (hf : fs.length = n := by rfl)
    (hn : (assignEach es X.env).length = n := by rfl) (hst : (assignEach es X.env).findIdx? (·.1) = none := by rfl) : PG X (.Tuple es k pos) (tG X.K ts (gTupM fs)) :=
  PG.imp (pg_tup hc h hn hst) fun v σ H Q ⟨w, s, M, d, s', hH, R, S, q, e, k⟩ => by
    subst hH
    cases q with
    | tup f t =>
      have e : unAll fs _ s = some s' := e
      exact ⟨_, _, rfl, f.sq, by rw [t.length, unAll_len e, hf], ⟨w, s, M, _, s', rfl, R, S, t, e, k⟩⟩
    | utup f t =>
      have e : unAll fs _ s = some s' := e
      exact ⟨_, _, rfl, f.sq, by rw [t.length, unAll_len e, hf], ⟨w, s, M, _, s', rfl, R, S, t, e, k⟩⟩
    | _ => cases e

/-! ### comprehensions -/
def wipeD (s : Sl) : List Nat → Sl
  | [] => s
  | i :: r => (wipeD s r).set i none
def tYesM : MX Bool := fun _ M => .ok true M
/-- what is made is made without a raise, and what is walked stays -/
def noex {α : Type} : RE α → RE α
  | .ok a M => .ok a M
  | _ => .no
open Classical in
noncomputable def compG (tg : TgM) (tt : MX Bool) (te : ME) (s : Sl) (all : List D) (g : Option Nat) : List D → List D → Mem → RE (List D)
  | [], acc, M => if guardOk M all g then .ok acc M else .no
  | d :: ds, acc, M => if guardOk M all g then match tg d s with
    | none => .no
    | some s2 => (tt s2 M).bind fun b M1 => if b = true then (te s2 M1).bind fun y M2 => if acc.length < sizeLine then compG tg tt te s all g ds (acc ++ [y]) M2 else .no else compG tg tt te s all g ds acc M1
    else .no
noncomputable def lComp (it : MI) (tg : TgM) (tt : MX Bool) (te : ME) (own : List Nat) : MX (List D) := fun s M => (it s M).bind fun dg M1 => noex (compG tg tt te (wipeD s own) dg.1 dg.2 dg.1 [] M1)
theorem wipe_get {s : L2.St} {i : Nat} : ∀ {vs : List Nat}, i ∉ vs → (wipe s vs)[i]? = s[i]?
  | [], _ => rfl
  | v :: vs, h => by
    show ((wipe s vs).set v none)[i]? = _
    rw [List.getElem?_set_ne (by intro e; exact h (by simp [e]))]
    exact wipe_get (by intro e; exact h (by simp [e]))
theorem wipeD_some {s : Sl} {i : Nat} {x : D} : ∀ {vs : List Nat}, (wipeD s vs)[i]? = some (some x) → s[i]? = some (some x) ∧ i ∉ vs
  | [], h => ⟨h, by simp⟩
  | v :: vs, h => by
    have h : ((wipeD s vs).set v none)[i]? = some (some x) := h
    by_cases e : i = v
    · subst e
      by_cases hl : i < (wipeD s vs).length
      · rw [List.getElem?_set_self hl] at h; cases h
      · rw [List.getElem?_eq_none (by simpa using hl)] at h; cases h
    · rw [List.getElem?_set_ne (Ne.symm e)] at h
      obtain ⟨a, b⟩ := wipeD_some h
      exact ⟨a, by simp [e, b]⟩
theorem wipeD_length (s : Sl) : ∀ vs : List Nat, (wipeD s vs).length = s.length
  | [] => rfl
  | v :: vs => by rw [wipeD, List.length_set, wipeD_length]
theorem SlotR.wipe {K : PySem.W.Frag} {w : Wd} {σ : L2.St} {s : Sl} (h : SlotR K w σ s) (vs : List Nat) : SlotR K w (L2.wipe σ vs) (wipeD s vs) := by
  refine ⟨by rw [L2.wipe_length, wipeD_length]; exact h.len, fun i d e => ?_⟩
  obtain ⟨e1, hi⟩ := wipeD_some e
  obtain ⟨v, a, b⟩ := h.get i d e1
  exact ⟨v, by rw [wipe_get hi]; exact a, b⟩
/-- within a comprehension nothing is let out -/
abbrev W0 : WX := fun _ _ _ _ => False
theorem wipe_mem {s : L2.St} {i : Nat} : ∀ {vs : List Nat}, i ∈ vs → (wipe s vs)[i]? = if i < s.length then some none else none
  | v :: vs, h => by
    show ((wipe s vs).set v none)[i]? = _
    by_cases e : i = v
    · subst e
      by_cases hl : i < s.length
      · rw [List.getElem?_set_self (by rw [L2.wipe_length]; exact hl), if_pos hl]
      · rw [List.getElem?_eq_none (by rw [List.length_set, L2.wipe_length]; omega), if_neg hl]
    · rw [List.getElem?_set_ne (Ne.symm e)]
      exact wipe_mem (by rcases List.mem_cons.mp h with z | z; exact absurd z e; exact z)
theorem wipe_eq {s s2 : L2.St} {vs : List Nat} (hl : s2.length = s.length) (h : ∀ i : Nat, i ∉ vs → s2[i]? = s[i]?) : wipe s2 vs = wipe s vs := by
  refine List.ext_getElem? fun i => ?_
  by_cases hi : i ∈ vs
  · rw [wipe_mem hi, wipe_mem hi, hl]
  · rw [wipe_get hi, wipe_get hi, h i hi]
/-- a list that is being made at p -/
structure Opn (K : PySem.W.Frag) (b : Wd) (M : Mem) (p : Addr) (o : HO) : Prop where
  rep : Rep K b M
  f : ¬ b.F p
  z : ¬ b.Z p
  r : ∀ i, i < b.n → b.r i ≠ p
  at_ : b.H p = some o
def Wd.pz (b : Wd) (p : Addr) : Wd := { b with Z := fun a => a = p ∨ b.Z a }
def Wd.uz (b : Wd) (Z : Addr → Prop) : Wd := { b with Z := Z }
theorem CellR.lift {K : PySem.W.Frag} {w w' : Wd} {a : Addr} {c : Cell} (h : CellR K w a c) (hH : w'.H = w.H) (hF : w'.F = w.F) (hn : w'.n = w.n) (hr : w'.r = w.r) : CellR K w' a c := by
  cases c with
  | lst ds => obtain ⟨vs, q1, q2⟩ := h; exact ⟨vs, by rw [hH]; exact q1, q2.lift hH hF hn hr⟩
  | dct ds => obtain ⟨vs, q1, q3, q2⟩ := h; exact ⟨vs, by rw [hH]; exact q1, q3, q2.lift hH hF hn hr⟩
  | ins C ds => obtain ⟨dx, vs, q1, q3, q2⟩ := h; exact ⟨dx, vs, by rw [hH]; exact q1, q3, q2.lift hH hF hn hr⟩
  | dead => show w'.H a ≠ none; rw [hH]; exact h
theorem Opn.prot {K : PySem.W.Frag} {b : Wd} {M : Mem} {p : Addr} {vs : HO} (O : Opn K b M p vs) : Rep K (b.pz p) M := by
  refine ⟨O.rep.n, O.rep.hF, fun a h => ?_, O.rep.fr, fun i hi h => ?_, fun a h z => ?_, O.rep.inj, fun i c h => (O.rep.cells i c h).lift rfl rfl rfl rfl⟩
  · rcases h with rfl | h
    · show b.H a ≠ none
      rw [O.at_]; exact fun z => nomatch z
    · exact O.rep.hZ a h
  · rcases h with h | h
    · exact O.r i hi h
    · exact O.rep.zr i hi h
  · rcases z with rfl | z
    · exact O.f h
    · exact O.rep.fz a h z
theorem Opn.back {K : PySem.W.Frag} {b w2 : Wd} {M M2 : Mem} {p : Addr} {vs : HO} (O : Opn K b M p vs) (l : Le (b.pz p) w2) (R2 : Rep K w2 M2) : Opn K (w2.uz b.Z) M2 p vs ∧ Le b (w2.uz b.Z) := by
  have hz : w2.Z = fun a => a = p ∨ b.Z a := l.zz
  have zp : w2.Z p := by rw [hz]; exact .inl rfl
  have zb : ∀ a, b.Z a → w2.Z a := fun a h => by rw [hz]; exact .inr h
  refine ⟨⟨⟨R2.n, R2.hF, fun a h => R2.hZ a (zb a h), R2.fr, fun i hi h => R2.zr i hi (zb _ h), fun a h z => R2.fz a h (zb a z), R2.inj, fun i c h => (R2.cells i c h).lift rfl rfl rfl rfl⟩, fun h => R2.fz p h zp, O.z, fun i hi e => R2.zr i hi (by rw [show w2.r i = p from e]; exact zp), (l.z p (.inl rfl)).trans O.at_⟩, ⟨l.f, fun a h => l.z a (.inr h), rfl, l.n, l.r⟩⟩
theorem Opn.write {K : PySem.W.Frag} {b : Wd} {M : Mem} {p : Addr} {vs us : HO} (O : Opn K b M p vs) : Opn K { b with H := upd b.H p us } M p us ∧ Le b { b with H := upd b.H p us } := by
  have l : Le b { b with H := upd b.H p us } := ⟨fun a h => ⟨h, upd_ne fun e => O.f (by rw [← e]; exact h)⟩, fun a h => upd_ne fun e => O.z (by rw [← e]; exact h), rfl, Nat.le_refl _, fun _ _ => rfl⟩
  refine ⟨⟨⟨O.rep.n, fun a h => ?_, fun a h => ?_, O.rep.fr, O.rep.zr, O.rep.fz, O.rep.inj, fun i c h => ?_⟩, O.f, O.z, O.r, upd_same⟩, l⟩
  · rw [(l.f a h).2]; exact O.rep.hF a h
  · rw [l.z a h]; exact O.rep.hZ a h
  · have hi : i < b.n := by rw [O.rep.n]; exact (List.getElem?_eq_some_iff.mp h).1
    exact (O.rep.cells i c h).mono l (upd_ne (O.r i hi))
theorem comp_read {it : MI} {f : TgM} {ts vs : List Nat} {tt : MX Bool} {te : ME} (hts : ∀ i ∈ ts, i ∈ vs) {σ : L2.St} {H : Hp} {Q : VK} (h : tL X.K W (lComp it f tt te vs) σ H Q) :
    tLc (tI X.K W it) (tG X.K ts f) (tT X.K W0 tt) (tE X.K W0 te) vs σ H Q := by
    obtain ⟨w, s, M, hH, R, S, h⟩ := h
    subst hH
    show tI X.K W it σ w.H fun J H1 => ∀ p, H1 p = none → ∃ W' : Nat → Nat → Hp → Prop, (∃ m, W' 0 m (upd H1 p (.lst []))) ∧ ∀ i m H, W' i m H →
      (J.stop i H ∧ Q (.ref p) H) ∨ (J.go i H ∧ ∃ Nx : Hp → Prop, (∀ H', Nx H' → ∃ m', m' < m ∧ W' (i + 1) m' H') ∧ ∀ x H', J.yld i H x H' → tG X.K ts f x (wipe σ vs) H' fun σ2 H2 => wipe σ2 vs = wipe σ vs ∧ tT X.K W0 tt σ2 H2 fun b H3 =>
        if b = true then tE X.K W0 te σ2 H3 fun y H4 => ∃ acc, H4 p = some (.lst acc) ∧ acc.length < sizeLine ∧ Nx (upd H4 p (.lst (acc ++ [y]))) else Nx H3)
    refine ⟨w, s, M, rfl, R, S, tG_bind h fun dg M1 w1 l1 R1 P J wk p hp => ?_⟩
    obtain ⟨ds, g⟩ := dg
    dsimp only at P wk
    let Pe : List D → Wd → Prop := fun ds w' => ∀ q vs, w'.H q = none → Dens X.K w' vs ds → Q (.ref q) (upd w'.H q (.lst vs))
    let Go : Nat → Hp → Prop := fun i H => ∃ b Mi acc accV, b.H = H ∧ Le w1 b ∧ Opn X.K b Mi p (.lst accV) ∧ Dens X.K b accV acc ∧ PostG X.K W b σ Pe (noex (compG f tt te (wipeD s vs) ds g (ds.drop i) acc Mi))
    refine ⟨fun i m H => i ≤ ds.length ∧ m = ds.length - i ∧ Go i H, ⟨ds.length, Nat.zero_le _, rfl, ?_⟩, ?_⟩
    · have hF : ¬ w1.F p := fun z => R1.hF p z hp
      have hZ : ¬ w1.Z p := fun z => R1.hZ p z hp
      have hr : ∀ i, i < w1.n → w1.r i ≠ p := fun i hi => R1.ne hp hi
      have O : Opn X.K (w1.junk p (.lst [])) M1 p (.lst []) := ⟨rep_junk R1 hp, hF, hZ, hr, upd_same⟩
      exact ⟨w1.junk p (.lst []), M1, [], [], rfl, le_junk R1 hp, O, .nil, PostG.le P (le_junk R1 hp)⟩
    · rintro i m H ⟨hi, rfl, b, Mi, acc, accV, rfl, lb, O, da, P⟩
      have lz : Lw w1 (b.pz p) := lb.lw.trans ⟨fun a h => ⟨h, rfl⟩, Nat.le_refl _, fun _ _ => rfl⟩
      have gk : guardOk Mi ds g := by
        cases e : ds.drop i with
        | nil =>
          rw [e, compG] at P
          by_cases h : guardOk Mi ds g
          · exact h
          · rw [if_neg h] at P; exact P.elim
        | cons d r =>
          rw [e, compG] at P
          by_cases h : guardOk Mi ds g
          · exact h
          · rw [if_neg h] at P; exact P.elim
      have wki := wk (b.pz p) Mi lz O.prot gk i
      by_cases hlt : i < ds.length
      · have ed : ds.drop i = ds[i] :: ds.drop (i + 1) := List.drop_eq_getElem_cons hlt
        have eg : ds[i]? = some ds[i] := List.getElem?_eq_getElem hlt
        obtain ⟨go, yl⟩ := wki.1 _ eg
        rw [ed, compG, if_pos gk] at P
        refine .inr ⟨go, Go (i + 1), fun H' g' => ⟨ds.length - (i + 1), by omega, by omega, rfl, g'⟩, fun x H' y => ?_⟩
        obtain ⟨w2, rfl, l2, R2, dx⟩ := yl x H' y
        have Sw : SlotR X.K w2 (wipe σ vs) (wipeD s vs) := (S.mow ((l1.lw.trans lz).trans l2.lw)).wipe vs
        cases e2 : f ds[i] (wipeD s vs) with
        | none => rw [e2] at P; exact P.elim
        | some s2 =>
          rw [e2] at P
          dsimp only at P
          refine ⟨w2, _, Mi, _, s2, rfl, R2, Sw, dx, e2, fun σ2 S2 o2 => ⟨?_, w2, s2, Mi, rfl, R2, S2, ?_⟩⟩
          · have h1 : wipe σ2 vs = wipe (wipe σ vs) vs := wipe_eq o2.1 fun i hi => o2.2 i fun z => hi (hts i z)
            rw [h1]
            exact wipe_eq (L2.wipe_length _ _) fun i hi => wipe_get hi
          · cases et : tt s2 Mi with
            | no => rw [et] at P; exact P.elim
            | ex c M3 => rw [et] at P; exact P.elim
            | ok bb M3 =>
              rw [et] at P
              intro w3 l3 R3
              have l23 := l2.trans l3
              obtain ⟨O3, lb3⟩ := O.back l23 R3
              cases bb with
              | false =>
                have P : PostG X.K W b σ Pe (noex (compG f tt te (wipeD s vs) ds g (ds.drop (i + 1)) acc M3)) := P
                exact ⟨w3.uz b.Z, M3, acc, accV, rfl, lb.trans lb3, O3, da.mono lb3, PostG.le P lb3⟩
              | true =>
                have P : PostG X.K W b σ Pe (noex ((te s2 M3).bind fun y M2 => if acc.length < sizeLine then compG f tt te (wipeD s vs) ds g (ds.drop (i + 1)) (acc ++ [y]) M2 else .no)) := P
                refine ⟨w3, s2, M3, rfl, R3, S2.mono l3, ?_⟩
                cases ee : te s2 M3 with
                | no => rw [ee] at P; exact P.elim
                | ex c M4 => rw [ee] at P; exact P.elim
                | ok y M4 =>
                  rw [ee] at P
                  intro w4 v l4 R4 q4
                  have l24 := l23.trans l4
                  obtain ⟨O4, lb4⟩ := O.back l24 R4
                  have P : PostG X.K W b σ Pe (noex (if acc.length < sizeLine then compG f tt te (wipeD s vs) ds g (ds.drop (i + 1)) (acc ++ [y]) M4 else .no)) := P
                  by_cases hz : acc.length < sizeLine
                  · rw [if_pos hz] at P
                    refine ⟨accV, O4.at_, by rw [da.length]; exact hz, ?_⟩
                    obtain ⟨O5, l5⟩ := O4.write (us := .lst (accV ++ [v]))
                    have q5 : Den X.K (w4.uz b.Z) v y := Den.lift (w := w4) (w' := w4.uz b.Z) rfl rfl rfl rfl q4
                    exact ⟨_, M4, acc ++ [y], accV ++ [v], rfl, (lb.trans lb4).trans l5, O5, ((da.mono lb4).append (.one q5)).mono l5, PostG.le P (lb4.trans l5)⟩
                  · rw [if_neg hz] at P; exact P.elim
      · have e0 : ds.drop i = [] := List.drop_eq_nil_of_le (by omega)
        rw [e0, compG, if_pos gk] at P
        refine .inl ⟨wki.2 (by omega) (by omega), ?_⟩
        -- the list is made
        have l6 : Le b { b with H := fun a => if a = p then none else b.H a } := ⟨fun a h => ⟨h, if_neg fun e => O.f (by rw [← e]; exact h)⟩, fun a h => if_neg fun e => O.z (by rw [← e]; exact h), rfl, Nat.le_refl _, fun _ _ => rfl⟩
        have R6 : Rep X.K { b with H := fun a => if a = p then none else b.H a } Mi := by
          refine ⟨O.rep.n, fun a h => ?_, fun a h => ?_, O.rep.fr, O.rep.zr, O.rep.fz, O.rep.inj, fun i c h => ?_⟩
          · rw [(l6.f a h).2]; exact O.rep.hF a h
          · rw [l6.z a h]; exact O.rep.hZ a h
          · have hi : i < b.n := by rw [O.rep.n]; exact (List.getElem?_eq_some_iff.mp h).1
            exact (O.rep.cells i c h).mono l6 (if_neg (O.r i hi))
        have q := P _ l6 R6 p accV (if_pos rfl) (da.mono l6)
        have eH : upd (fun a => if a = p then none else b.H a) p (.lst accV) = b.H := by
          funext a
          by_cases e : a = p
          · subst e; rw [upd_same, O.at_]
          · rw [upd_ne e, if_neg e]
        rw [← eH]
        exact q

theorem s_comp {elt iter : Expr} {ifs : List Expr} {scope : Scope} {own : List (Str × Nat)} {it : MI} {f : TgM} {ts : List Nat} {tt : MX Bool} {te : ME} (hc : X.calm = true) (hN : X.N.Nodup) (hi : PI X tg iter (tI X.K W it)) (ok : BlkOk X.N X.env.scope scope own)
    (hg : ∀ (s : Shared) (H : Hp) (C : Addr) (cl : List (Str × Addr)) (fp : List Addr), PG (X.blk s H scope (compEnvC scope cl C X.env) fp) tg (tG X.K ts f))
    (ht : ∀ (s : Shared) (H : Hp) (C : Addr) (cl : List (Str × Addr)) (fp : List Addr), PTs (X.blk s H scope (compEnvC scope cl C X.env) fp) ifs (tT X.K W0 tt))
    (he : ∀ (s : Shared) (H : Hp) (C : Addr) (cl : List (Str × Addr)) (fp : List Addr), PE (X.blk s H scope (compEnvC scope cl C X.env) fp) elt (tE X.K W0 te))
    (hts : ∀ i ∈ ts, i ∈ own.map (·.2) := by decide) (hs : ∀ x, foldedSetIterable iter X.env x = pure x := by intro _; rfl) :
    PE X (.ListComp elt [⟨tg, iter, ifs, 0⟩] scope pos) (tL X.K W (lComp it f tt te (own.map (·.2)))) :=
  PE.imp (pe_lc hc hN hi ok hg ht he hs) fun σ H Q h => comp_read hts h
theorem s_tsno : PTs X [] (tT X.K W tYesM) := ⟨fun pins s σ H Q I ⟨w, s', M, hH, R, S, h⟩ => (pts_nil (X := X)).run pins s σ H Q I (by subst hH; exact h w (Le.refl _) R)⟩
end
end MM
namespace MM
open PySem PySem.Spec PyProof.Rows L2
/-! ### statements -/
def RE.st {α : Type} (r : RE α) (s : Sl) (k : α → Mem → RS) : RS := match r with
  | .ok a M => k a M
  | .ex c M => .ex c s M
  | .no => .no
def sNil : MS := fun s M => .nx s M
def sSeq (a b : MS) : MS := fun s M => match a s M with
  | .nx s' M' => b s' M'
  | r => r
def sIf (t : MX Bool) (a b : MS) : MS := fun s M => (t s M).st s fun c M' => if c = true then a s M' else b s M'
def sAsg (m : ME) (g : TgM) : MS := fun s M => (m s M).st s fun d M' => match g d s with
  | some s' => .nx s' M'
  | none => .no
def sRet (m : ME) : MS := fun s M => (m s M).st s fun d M' => .rt d M'
def sRetN : MS := fun _ M => .rt .non M
def sExpr (m : ME) : MS := fun s M => (m s M).st s fun _ M' => .nx s M'
def sBrk : MS := fun s M => .bk s M
def sCnt : MS := fun s M => .ct s M
open Classical in
noncomputable def forG (tg : TgM) (b : MS) (all : List D) (g : Option Nat) : List D → Sl → Mem → RS
  | [], s, M => if guardOk M all g then .nx s M else .no
  | d :: ds, s, M => if guardOk M all g then match tg d s with
    | none => .no
    | some s2 => match b s2 M with
      | .nx s3 M3 => forG tg b all g ds s3 M3
      | .ct s3 M3 => forG tg b all g ds s3 M3
      | .bk s3 M3 => .nx s3 M3
      | r => r
    else .no
noncomputable def sFor (it : MI) (tg : TgM) (b : MS) : MS := fun s M => (it s M).st s fun dg M1 => forG tg b dg.1 dg.2 dg.1 s M1
def whG (c : MX Bool) (b : MS) : Nat → Sl → Mem → RS
  | 0, _, _ => .no
  | n + 1, s, M => (c s M).st s fun k M1 => if k = true then (match b s M1 with
      | .nx s2 M2 => whG c b n s2 M2
      | .ct s2 M2 => whG c b n s2 M2
      | .bk s2 M2 => .nx s2 M2
      | r => r) else .nx s M1
open Classical in
noncomputable def sWhile (c : MX Bool) (b : MS) : MS := fun s M => if h : ∃ n, whG c b n s M ≠ .no then whG c b h.choose s M else .no
theorem whG_mono (c : MX Bool) (b : MS) : ∀ (n : Nat) (s : Sl) (M : Mem), whG c b n s M ≠ .no → ∀ k, n ≤ k → whG c b k s M = whG c b n s M
  | 0, s, M, h, _, _ => absurd rfl h
  | n + 1, s, M, h, 0, hk => absurd hk (Nat.not_succ_le_zero _)
  | n + 1, s, M, h, k + 1, hk => by
    rw [whG] at h ⊢
    rw [whG]
    cases e : c s M with
    | no => rfl
    | ex x M1 => rfl
    | ok t M1 =>
      rw [e] at h
      cases t with
      | false => rfl
      | true =>
        simp only [RE.st, if_true] at h ⊢
        cases e2 : b s M1 with
        | nx s2 M2 => rw [e2] at h; exact whG_mono c b n s2 M2 h k (by omega)
        | ct s2 M2 => rw [e2] at h; exact whG_mono c b n s2 M2 h k (by omega)
        | _ => rfl
theorem sWhile_eq {c : MX Bool} {b : MS} {s : Sl} {M : Mem} {n : Nat} {r : RS} (h : whG c b n s M = r) (hr : r ≠ .no) : sWhile c b s M = r := by
  have ex : ∃ n, whG c b n s M ≠ .no := ⟨n, by rw [h]; exact hr⟩
  unfold sWhile
  rw [dif_pos ex]
  have h1 := ex.choose_spec
  rcases Nat.le_total ex.choose n with l | l
  · rw [← whG_mono c b _ s M h1 n l, h]
  · rw [whG_mono c b n s M (by rw [h]; exact hr) _ l, h]
section
variable {X : Cx} {W : WX} {pos : Pos} {e : Expr} {m : ME} {st : Stmt} {rest body : List Stmt} {a b : MS} {t : MX Bool}
section
variable {K : PySem.W.Frag} {w : Wd} {σ : L2.St} {s : Sl} {M : Mem} {D : Ends}
theorem tE_st {Q : VK} {k : MM.D → Mem → RS} (R : Rep K w M) (S : SlotR K w σ s) (h : PostS K W w D ((m s M).st s k)) (q : ∀ d M' w' v, Le w w' → Rep K w' M' → Den K w' v d → PostS K W w' D (k d M') → Q v w'.H) : tE K W m σ w.H Q := by
  refine ⟨w, s, M, rfl, R, S, ?_⟩
  cases e : m s M with
  | ok d M' => rw [e] at h; exact fun w' v l R' qd => q d M' w' v l R' qd (PostS.le (r := k d M') h l)
  | ex c M' => rw [e] at h; exact fun w' l R' => h w' σ l R' (S.mono l)
  | no => rw [e] at h; exact h
theorem tG_st {α : Type} {m : MX α} {P : α → Wd → Prop} {k : α → Mem → RS} (R : Rep K w M) (S : SlotR K w σ s) (h : PostS K W w D ((m s M).st s k)) (q : ∀ d M' w', Le w w' → Rep K w' M' → PostS K W w' D (k d M') → P d w') : PostG K W w σ P (m s M) := by
  cases e : m s M with
  | ok d M' => rw [e] at h; exact fun w' l R' => q d M' w' l R' (PostS.le (r := k d M') h l)
  | ex c M' => rw [e] at h; exact fun w' l R' => h w' σ l R' (S.mono l)
  | no => rw [e] at h; exact h
end
theorem s_snil : PSs X [] (tS X.K W sNil) := PSs.imp pss_nil fun D σ H ⟨w, s, M, hH, R, S, h⟩ => by subst hH; exact h w σ (Le.refl _) R S
theorem s_scons (h1 : PS X st (tS X.K W a)) (h2 : PSs X rest (tS X.K W b)) : PSs X (st :: rest) (tS X.K W (sSeq a b)) :=
  PSs.imp (pss_cons h1 h2) fun D σ H ⟨w, s, M, hH, R, S, h⟩ => by
    refine ⟨w, s, M, hH, R, S, ?_⟩
    unfold sSeq at h
    cases e : a s M with
    | nx s' M' => rw [e] at h; exact fun w' σ' l R' S' => ⟨w', s', M', rfl, R', S', PostS.le (r := b s' M') h l⟩
    | rt d M' => rw [e] at h; exact h
    | bk d M' => rw [e] at h; exact h
    | ct d M' => rw [e] at h; exact h
    | ex c s' M' => rw [e] at h; exact h
    | no => rw [e] at h; exact h
theorem s_sone (h1 : PS X st (tS X.K W a)) : PSs X [st] (tS X.K W a) := pss_one h1
theorem s_if {c : Expr} {A B : List Stmt} (hc : PT X c (tT X.K W t)) (ha : PSs X A (tS X.K W a)) (hb : PSs X B (tS X.K W b)) : PS X (.If c A B pos) (tS X.K W (sIf t a b)) :=
  PS.imp (ps_if hc ha hb) fun D σ H ⟨w, s, M, hH, R, S, h⟩ => by
    subst hH
    refine ⟨w, s, M, rfl, R, S, tG_st R S h fun c M' w' l R' P => ?_⟩
    cases c with
    | true => exact ⟨w', s, M', rfl, R', S.mono l, P⟩
    | false => exact ⟨w', s, M', rfl, R', S.mono l, P⟩
theorem s_pass : PS X (.Pass pos) (tS X.K W sNil) := PS.imp ps_pass fun D σ H ⟨w, s, M, hH, R, S, h⟩ => by subst hH; exact h w σ (Le.refl _) R S
theorem s_break : PS X (.Break pos) (tS X.K W sBrk) := PS.imp ps_break fun D σ H ⟨w, s, M, hH, R, S, h⟩ => by subst hH; exact h w σ (Le.refl _) R S
theorem s_continue : PS X (.Continue pos) (tS X.K W sCnt) := PS.imp ps_continue fun D σ H ⟨w, s, M, hH, R, S, h⟩ => by subst hH; exact h w σ (Le.refl _) R S
theorem s_expr (he : PE X e (tE X.K W m)) (hs : swapsWith e none pos.line X.env = pure false := by rfl) : PS X (.Expr e pos) (tS X.K W (sExpr m)) :=
  PS.imp (ps_expr he hs) fun D σ H ⟨w, s, M, hH, R, S, h⟩ => by
    subst hH
    exact tE_st R S h fun d M' w' v l R' q P => P w' σ (Le.refl _) R' (S.mono l)
theorem s_ret (he : PE X e (tE X.K W m)) : PS X (.Return (some e) pos) (tS X.K W (sRet m)) :=
  PS.imp (ps_ret he) fun D σ H ⟨w, s, M, hH, R, S, h⟩ => by
    subst hH
    exact tE_st R S h fun d M' w' v l R' q P => P w' v (Le.refl _) R' q
theorem s_retN : PS X (.Return none pos) (tS X.K W sRetN) := PS.imp ps_retN fun D σ H ⟨w, s, M, hH, R, S, h⟩ => by subst hH; exact h w .non (Le.refl _) R .non
theorem asg_read {tg : Expr} {g : TgM} {ts : List Nat} {D : Ends} {σ : L2.St} {H : Hp} (h : tS X.K W (sAsg m g) D σ H) : tAsg (tE X.K W m) (tG X.K ts g) D σ H := by
  obtain ⟨w, s, M, hH, R, S, h⟩ := h
  subst hH
  show tE X.K W m σ w.H fun x H1 => tG X.K ts g x σ H1 D.nx
  refine tE_st R S h fun d M' w' v l R' q P => ?_
  split at P
  · rename_i s' e
    exact ⟨w', s, M', d, s', rfl, R', S.mono l, q, e, fun σ' S' _ => P w' σ' (Le.refl _) R' S'⟩
  · exact P.elim
theorem s_asg {tg : Expr} {g : TgM} {ts : List Nat} (he : PE X e (tE X.K W m)) (hg : PG X tg (tG X.K ts g)) (hs : swapsWithSole [tg] e pos.line X.env = pure false := by rfl) (hw : swappedStores [tg] e X.env = pure none := by rfl)
    (h1 : (assignEach [tg] X.env).map (·.2) = [assign tg X.env] := by rfl) : PS X (.Assign [tg] e pos) (tS X.K W (sAsg m g)) := PS.imp (ps_asg he hg hs hw h1) fun D σ H h => asg_read (tg := tg) h
theorem set_read {i : Nat} {D : Ends} {σ : L2.St} {H : Hp} (h : tS X.K W (sAsg m (gSet i)) D σ H) : tAsg (tE X.K W m) (gName i) D σ H := by
  obtain ⟨w, s, M, hH, R, S, h⟩ := h
  subst hH
  show tE X.K W m σ w.H fun x H1 => D.nx (σ.set i (some x)) H1
  exact tE_st R S h fun d M' w' v l R' q P => P w' _ (Le.refl _) R' ((S.mono l).set q i)
theorem s_set (i : Nat) {x : Str} {pos' : Pos} (he : PE X e (tE X.K W m)) (hN : X.N.Nodup) (hi : X.N[i]? = some x := by rfl) (hx : Loc X.env.scope x := by first | exact Or.inl rfl | exact Or.inr rfl) (hs : swapsWith e (some (.Name x pos')) pos.line X.env = pure false := by rfl)
    (hf : X.fn x = true ∨ X.env.scope.names.lookup x = some .local := by first | exact .inl rfl | exact .inr rfl) : PS X (.Assign [.Name x pos'] e pos) (tS X.K W (sAsg m (gSet i))) :=
  PS.imp (ps_set hN hi hx he hs hf) fun D σ H h => set_read h

/-! ### for, while -/
theorem s_for {tg iter : Expr} {it : MI} {f : TgM} {ts : List Nat} (hp : PassesOwn (model X.prog X.w) X.A X.env X.xe) (hc : X.calm = true) (hi : PI X tg iter (tI X.K W it)) (hg : PG X tg (tG X.K ts f)) (hb : PSs X body (tS X.K W b))
    (hs : ∀ x, foldedSetIterable iter X.env x = pure x := by intro _; rfl) : PS X (.For tg iter body [] pos) (tS X.K W (sFor it f b)) :=
  PS.imp (ps_for hp hc hi hg hb hs) fun D σ H ⟨w, s, M, hH, R, S, h⟩ => by
    subst hH
    show tI X.K W it σ w.H fun J H1 => ∃ W' : Nat → Nat → L2.St → Hp → Prop, (∃ m, W' 0 m σ H1) ∧ ∀ i m σ H, W' i m σ H →
      (J.stop i H ∧ D.nx σ H) ∨ (J.go i H ∧ ∃ N : L2.St → Hp → Prop, (∀ σ' H', N σ' H' → ∃ m', m' < m ∧ W' (i + 1) m' σ' H') ∧ ∀ x H', J.yld i H x H' → tG X.K ts f x σ H' fun σ2 H2 => tS X.K W b { D with nx := N, ct := N, bk := D.nx } σ2 H2)
    refine ⟨w, s, M, rfl, R, S, tG_st R S h fun dg M1 w1 l1 R1 P J wk => ?_⟩
    obtain ⟨ds, g⟩ := dg
    dsimp only at P wk
    let Go : Nat → L2.St → Hp → Prop := fun i σ' H => ∃ c si Mi, c.H = H ∧ Le w1 c ∧ Rep X.K c Mi ∧ SlotR X.K c σ' si ∧ PostS X.K W c D (forG f b ds g (ds.drop i) si Mi)
    refine ⟨fun i m σ' H => i ≤ ds.length ∧ m = ds.length - i ∧ Go i σ' H, ⟨ds.length, Nat.zero_le _, rfl, w1, s, M1, rfl, Le.refl _, R1, S.mono l1, P⟩, ?_⟩
    rintro i m σ' H ⟨hi, rfl, c, si, Mi, rfl, lc, Rc, Sc, P⟩
    have gk : guardOk Mi ds g := by
      cases e : ds.drop i with
      | nil =>
        rw [e, forG] at P
        by_cases h : guardOk Mi ds g
        · exact h
        · rw [if_neg h] at P; exact P.elim
      | cons d r =>
        rw [e, forG] at P
        by_cases h : guardOk Mi ds g
        · exact h
        · rw [if_neg h] at P; exact P.elim
    have wki := wk c Mi lc.lw Rc gk i
    by_cases hlt : i < ds.length
    · have ed : ds.drop i = ds[i] :: ds.drop (i + 1) := List.drop_eq_getElem_cons hlt
      have eg : ds[i]? = some ds[i] := List.getElem?_eq_getElem hlt
      obtain ⟨go, yl⟩ := wki.1 _ eg
      rw [ed, forG, if_pos gk] at P
      refine .inr ⟨go, Go (i + 1), fun σ2 H2 g' => ⟨ds.length - (i + 1), by omega, by omega, rfl, g'⟩, fun x H' y => ?_⟩
      obtain ⟨w2, rfl, l2, R2, dx⟩ := yl x H' y
      cases e2 : f ds[i] si with
      | none => rw [e2] at P; exact P.elim
      | some s2 =>
        rw [e2] at P
        dsimp only at P
        refine ⟨w2, si, Mi, _, s2, rfl, R2, Sc.mono l2, dx, e2, fun σ2 S2 _ => ⟨w2, s2, Mi, rfl, R2, S2, ?_⟩⟩
        cases eb : b s2 Mi with
        | nx s3 M3 => rw [eb] at P; exact fun w3 σ3 l3 R3 S3 => ⟨w3, s3, M3, rfl, (lc.trans l2).trans l3, R3, S3, PostS.le P (l2.trans l3)⟩
        | ct s3 M3 => rw [eb] at P; exact fun w3 σ3 l3 R3 S3 => ⟨w3, s3, M3, rfl, (lc.trans l2).trans l3, R3, S3, PostS.le P (l2.trans l3)⟩
        | bk s3 M3 => rw [eb] at P; exact fun w3 σ3 l3 R3 S3 => P w3 σ3 (l2.trans l3) R3 S3
        | rt d M3 => rw [eb] at P; exact fun w3 v l3 R3 q3 => P w3 v (l2.trans l3) R3 q3
        | ex x s3 M3 => rw [eb] at P; exact fun w3 σ3 l3 R3 S3 => P w3 σ3 (l2.trans l3) R3 S3
        | no => rw [eb] at P; exact P.elim
    · have e0 : ds.drop i = [] := List.drop_eq_nil_of_le (by omega)
      rw [e0, forG, if_pos gk] at P
      exact .inl ⟨wki.2 (by omega) (by omega), P c σ' (Le.refl _) Rc Sc⟩
theorem s_while {c : Expr} (hp : PassesOwn (model X.prog X.w) X.A X.env X.xe) (hc : PT X c (tT X.K W t)) (hb : PSs X body (tS X.K W b)) : PS X (.While c body [] pos) (tS X.K W (sWhile t b)) :=
  PS.imp (ps_while hp hc hb) fun D σ H ⟨w, s, M, hH, R, S, h⟩ => by
    subst hH
    unfold sWhile at h
    split at h
    · rename_i ex
      refine ⟨fun n σ' H => ∃ c si Mi, c.H = H ∧ Rep X.K c Mi ∧ SlotR X.K c σ' si ∧ PostS X.K W c D (whG t b n si Mi), ⟨ex.choose, w, s, M, rfl, R, S, h⟩, ?_⟩
      rintro n σ' H ⟨c, si, Mi, rfl, Rc, Sc, P⟩
      cases n with
      | zero => exact P.elim
      | succ n =>
        rw [whG] at P
        refine ⟨c, si, Mi, rfl, Rc, Sc, tG_st Rc Sc P fun k M' w' l R' P => ?_⟩
        cases k with
        | false => exact P w' σ' (Le.refl _) R' (Sc.mono l)
        | true =>
          simp only [if_true] at P ⊢
          refine ⟨fun σ2 H2 => ∃ c si Mi, c.H = H2 ∧ Rep X.K c Mi ∧ SlotR X.K c σ2 si ∧ PostS X.K W c D (whG t b n si Mi), fun σ2 H2 z => ⟨n, Nat.lt_succ_self _, z⟩, w', si, M', rfl, R', Sc.mono l, ?_⟩
          cases eb : b si M' with
          | nx s3 M3 => rw [eb] at P; exact fun w3 σ3 l3 R3 S3 => ⟨w3, s3, M3, rfl, R3, S3, PostS.le P l3⟩
          | ct s3 M3 => rw [eb] at P; exact fun w3 σ3 l3 R3 S3 => ⟨w3, s3, M3, rfl, R3, S3, PostS.le P l3⟩
          | bk s3 M3 => rw [eb] at P; exact P
          | rt d M3 => rw [eb] at P; exact P
          | ex x s3 M3 => rw [eb] at P; exact P
          | no => rw [eb] at P; exact P.elim
    · exact h.elim

/-! ### functions -/
/-- a def: np parameters, n names -/
def fn (np n : Nat) (b : MS) : Fn := fun ds M => if ds.length = np then (match b (ds.map some ++ List.replicate (n - np) none) M with
  | .nx _ M' => .ok .non M'
  | .rt d M' => .ok d M'
  | .ex c _ M' => .ex c M'
  | _ => .no) else .no
def PostF (K : PySem.W.Frag) (w : Wd) (Q : VK) (E : XK) : RE D → Prop
  | .ok d M' => ∀ w' v, Le w w' → Rep K w' M' → Den K w' v d → Q v w'.H
  | .ex c M' => ∀ w', Le w w' → Rep K w' M' → E (exV K c) none w'.H
  | .no => False
def spM (K : PySem.W.Frag) (n : Nat) (f : Fn) : Sp := fun vs H Q E => ∃ w ds M, w.H = H ∧ Rep K w M ∧ Dens K w vs ds ∧ ds.length = n ∧ PostF K w Q E (f ds M)
abbrev FnS (P : Program) (w : World) (K : PySem.W.Frag) (mg : Str → Option Value) (base : Heap) (k : Nat) (f : Addr) (fd : FuncData) (ps : List Str) (m : Fn) : Prop := FnOk P w K mg base (L2.CX P w) k f fd ps (spM K ps.length m)
theorem SlotR.start {K : PySem.W.Frag} {w : Wd} {N : List Str} {vs : List V} {ds : List D} (t : Dens K w vs ds) : SlotR K w (L2.start N vs) (ds.map some ++ List.replicate (N.length - ds.length) none) := by
  unfold L2.start
  refine ⟨by simp [t.length], fun i d e => ?_⟩
  by_cases hi : i < ds.length
  · rw [List.getElem?_append_left (by simpa using hi), List.getElem?_map] at e
    obtain ⟨d', e1, e2⟩ := Option.map_eq_some_iff.mp e
    cases e2
    obtain ⟨v, ev, q⟩ := t.get e1
    exact ⟨v, by rw [List.getElem?_append_left (by rw [List.length_map, t.length]; exact hi), List.getElem?_map, ev]; rfl, q⟩
  · rw [List.getElem?_append_right (by simpa using hi), List.getElem?_replicate] at e
    split at e <;> cases e
theorem fn_body {P : Program} {w : World} {K : PySem.W.Frag} {mg : Str → Option Value} {base : Heap} {x qual : Str} {f : Addr} {fd : FuncData} {N ps : List Str} {k : Nat} (F : Fun K x qual st f fd) (S : FnScope N ps (defScope st))
    (h : ∀ (cdv : Value) (A : Around) (outer : List Env) (s : Shared) (H : Hp) (E : XK), Room k (A.deeper (envOfC qual (defScope st) s.heap.objs.size f cdv)) →
      PSs (cxOf (L2.CX P w) P w K mg base N qual (defScope st) f cdv A outer s H E) (defBody st) (tS K (fun c d _ H => E c d H) b)) : FnS P w K mg base (k + 1) f fd ps (fn ps.length N.length b) := by
  refine F.okX S (fun vs H Q E ⟨w, ds, M, hH, R, t, hl, _⟩ => t.length.trans hl) fun cdv A outer s H vs Q E hr ⟨c, ds, M, hH, R, t, hl, h2⟩ => ⟨_, h cdv A outer s H E hr, ?_⟩
  refine ⟨c, ds.map some ++ List.replicate (N.length - ds.length) none, M, hH, R, SlotR.start t, ?_⟩
  unfold fn at h2
  rw [if_pos hl] at h2
  rw [hl]
  cases e : b (ds.map some ++ List.replicate (N.length - ps.length) none) M with
  | nx s' M' => rw [e] at h2; exact fun w' σ' l R' _ => h2 w' .non l R' .non
  | rt d M' => rw [e] at h2; exact h2
  | ex x s' M' => rw [e] at h2; exact fun w' σ' l R' _ => h2 w' l R'
  | bk s' M' => rw [e] at h2; exact h2.elim
  | ct s' M' => rw [e] at h2; exact h2.elim
  | no => rw [e] at h2; exact h2.elim
/-- a def by its global name; dd: the defaults that fill up -/
structure GFn (P : Program) (w : World) (K : PySem.W.Frag) (mg : Str → Option Value) (base : Heap) (x : Str) (k np : Nat) (dd : List D) (m : Fn) : Prop where
  ex : ∃ (f : Addr) (fd : FuncData) (ps : List Str) (dvs : List V) (dus : List Value), mg x = some (.ref f) ∧ PySem.W.keepIn K (.ref f) = true ∧ Binds K fd ps dus ∧ Vals dvs dus ∧ (∀ w, Dens K w dvs dd) ∧ ps.length = np ∧ FnS P w K mg base k f fd ps m
def eCall (np : Nat) (dd : List D) (m : Fn) (r : MX (List D)) : ME := fun s M => (r s M).bind fun ds M' => if (ds ++ dd).length = np then m (ds ++ dd) M' else .no
theorem call_sp {K : PySem.W.Frag} {w : Wd} {σ : L2.St} {Q : VK} {np : Nat} {m : Fn} {vs : List V} {ds : List D} {M : Mem} (R : Rep K w M) (t : Dens K w vs ds) (h : PostE K W w σ Q (if ds.length = np then m ds M else .no)) : spM K np m vs w.H Q (WE W σ) := by
  by_cases hl : ds.length = np
  · rw [if_pos hl] at h
    refine ⟨w, ds, M, rfl, R, t, hl, ?_⟩
    cases e : m ds M with
    | ok d M' => rw [e] at h; exact h
    | ex c M' => rw [e] at h; exact h
    | no => rw [e] at h; exact h.elim
  · rw [if_neg hl] at h; exact h.elim
theorem s_call {x : Str} {p : Pos} {es : List Expr} {k j np : Nat} {dd : List D} {mf : Fn} {r : MX (List D)} (G : GFn X.prog X.w X.K X.mg X.base x k np dd mf) (hr : Room j X.A) (tk : Takes X W) (ha : PA X (e :: es) (tA X.K W r)) (hk : k ≤ j := by decide) (hg : Gl X x := by rfl)
    (hdb : (x == ("__debug__" : Str)) = false := by decide) (he : starEach (e :: es) X.env = (false, eval e X.env) :: starEach es X.env := by rfl) (hpl : (backTo pos (starEach es X.env)).any (·.1) = false := by rfl) :
    PE X (.Call (.Name x p) (e :: es) [] pos) (tE X.K W (eCall np dd mf r)) := by
  obtain ⟨f, fd, ps, dvs, dus, hm, kp, hb, hv, hd, rfl, F⟩ := G.ex
  refine ⟨fun pins s σ H Q I ⟨w, sl, M, hH, R, S, h⟩ => ?_⟩
  subst hH
  refine wpAny_Call_Name_kw (ld_glob I hg hm ?_ hdb)
  have rd : tA X.K W r σ w.H fun vs H1 => spM X.K ps.length mf (vs ++ dvs) H1 Q (WE W σ) := tA_bind R S h.toG fun ds M' w' vs l R' q P => call_sp R' (q.append (hd w')) (PostG.toE P)
  refine PySem.W.callWith_K (h₀ := X.base) I.ok.mod.kin kp (thn (ha.run pos pins s σ w.H _ I rd) fun us s1 ⟨vs, H1, I1, rv, q⟩ => ⟨I1.kIn, ?_⟩) he hpl
  have r2 : Vals (vs ++ dvs) (us ++ dus) := rv.append hv
  have hl : (us ++ dus).length = ps.length := by rw [← r2.length]; exact F.len _ _ _ _ q
  refine wpAny_call (codeAny_mono (F.run X.A X.stack s1 H1 ⟨us, []⟩ (us ++ dus) (vs ++ dvs) Q (WE W σ) (hr.mono hk) I1.env0 (hb s1 us I1.kIn hl) r2 q) fun rr s' hq => ?_)
  cases rr with
  | error e => exact passAt tk σ pins H1 s1 e s' I1 hq
  | ok fl =>
    cases fl with
    | ret u => exact I1.after hq
    | next => exact False.elim hq
    | brk => exact False.elim hq
    | cont => exact False.elim hq
theorem s_call0 {x : Str} {p : Pos} {k j np : Nat} {dd : List D} {mf : Fn} (G : GFn X.prog X.w X.K X.mg X.base x k np dd mf) (hr : Room j X.A) (tk : Takes X W) (hk : k ≤ j := by decide) (hg : Gl X x := by rfl)
    (hdb : (x == ("__debug__" : Str)) = false := by decide) : PE X (.Call (.Name x p) [] [] pos) (tE X.K W (eCall np dd mf aNil)) := by
  obtain ⟨f, fd, ps, dvs, dus, hm, kp, hb, hv, hd, rfl, F⟩ := G.ex
  refine ⟨fun pins s σ H Q I ⟨w, sl, M, hH, R, S, h⟩ => ?_⟩
  subst hH
  refine wpAny_Call_Name_kw (ld_glob I hg hm ?_ hdb)
  have q : spM X.K ps.length mf dvs w.H Q (WE W σ) := call_sp R (hd w) h
  refine PySem.W.callWith_K0 I.kIn kp ?_
  have hl : (([] : List Value) ++ dus).length = ps.length := by rw [List.nil_append, ← hv.length]; exact F.len _ _ _ _ q
  have b := hb s [] I.kIn hl
  refine wpAny_call (codeAny_mono (F.run X.A X.stack s w.H ⟨[], []⟩ dus dvs Q (WE W σ) (hr.mono hk) I.env0 b hv q) fun rr s' hq => ?_)
  cases rr with
  | error e => exact passAt tk σ pins w.H s e s' I hq
  | ok fl =>
    cases fl with
    | ret u => exact I.after hq
    | next => exact False.elim hq
    | brk => exact False.elim hq
    | cont => exact False.elim hq
end
end MM
namespace MM
open PySem PySem.Spec PyProof.Rows L2
/-! ### places -/
theorem Dens.atI {K : PySem.W.Frag} {w : Wd} {vs : List V} {ds : List D} {i : Int} {d : D} (t : Dens K w vs ds) (e : atI ds i = some d) : ∃ v, L2.atI vs i = some v ∧ Den K w v d := by
  unfold L2.atI at e ⊢
  rw [t.length]
  obtain ⟨j, e1, e2⟩ := Option.bind_eq_some_iff.mp e
  obtain ⟨v, ev, q⟩ := t.get e2
  exact ⟨v, by rw [e1]; exact ev, q⟩
def getK (kvs : List (Key × D)) (k : Key) : Option D := (kvs.find? fun kv => decide (kv.1 = k)).map (·.2)
theorem getK_V {K : PySem.W.Frag} {w : Wd} : ∀ {ps : List (Key × V)} {kvs : List (Key × D)} {k : Key} {d : D}, ps.map (·.1) = kvs.map (·.1) → Dens K w (ps.map (·.2)) (kvs.map (·.2)) → getK kvs k = some d → ∃ v, valV ps k = some v ∧ Den K w v d
  | [], [], _, _, _, _, e => by cases e
  | p :: ps, q :: kvs, k, d, h, t, e => by
    rw [List.map_cons, List.map_cons] at h t
    injection h with h1 h2
    cases t with
    | cons t1 t2 =>
      unfold getK at e
      by_cases ek : q.1 = k
      · rw [List.find?_cons, decide_eq_true ek] at e
        cases e
        exact ⟨p.2, valV_pos (h1.trans ek), t1⟩
      · rw [List.find?_cons, decide_eq_false ek] at e
        obtain ⟨v, e1, e2⟩ := getK_V (k := k) h2 t2 e
        exact ⟨v, by rw [valV_neg (by rw [h1]; exact ek)]; exact e1, e2⟩
theorem getK_none {K : PySem.W.Frag} {w : Wd} {ps : List (Key × V)} {kvs : List (Key × D)} {k : Key} (h : ps.map (·.1) = kvs.map (·.1)) (e : getK kvs k = none) : valV ps k = none := by
  have e1 : (valV ps k).isSome = (kvs.any fun p => decide (p.1 = k)) := by rw [← valV_any, any_key h]
  have e2 : (kvs.any fun p => decide (p.1 = k)) = false := by
    unfold getK at e
    rw [Option.map_eq_none_iff, List.find?_eq_none] at e
    rw [List.any_eq_false]
    exact e
  rw [e2] at e1
  simpa using e1
def idxD (M : Mem) (a i : D) : Option D := match a with
  | .str z => match i with | .int i => (atI z.cps.toList i).map fun c => .str ⟨#[c]⟩ | _ => none
  | .tup xs => match i with | .int i => atI xs i | _ => none
  | .lst xs => match i with | .int i => atI xs i | _ => none
  | .arg xs => match i with | .int i => atI xs i | _ => none
  | .ktup xs => match i with | .int i => atI xs i | _ => none
  | .obj k => match M[k]? with
    | some (.lst xs) => match i with | .int i => atI xs i | _ => none
    | some (.dct kvs) => (keyD i).bind (getK kvs)
    | _ => none
  | _ => none
theorem atI_mem {α : Type} {xs : List α} {i : Int} {x : α} (e : atI xs i = some x) : x ∈ xs := by
  obtain ⟨j, _, h, _⟩ := atI_get e
  exact List.mem_of_getElem? h
section
variable {X : Cx} {W : WX} {pos : Pos} {e a b o : Expr} {es : List Expr} {m ma mb mo : ME} {r : MX (List D)}
theorem ix_d {k : Nat} (hr : Room k X.A) : IxR X (rM X.K idxD) := by
  intro value slice pins s σ H x y v u Q I rx ry ⟨w, M, d, e, z, hH, R, hx, hy, hf, kk⟩ hs
  subst hH
  unfold idxD at hf
  split at hf
  · split at hf
    · obtain ⟨c, e1, rfl⟩ := Option.map_eq_some_iff.mp hf
      cases hx with
      | str _ hx =>
        cases hy
        exact ix_str value slice pins s σ _ _ _ v u Q I rx ry ⟨_, _, c, rfl, rfl, okS_len hx, e1, kk w _ (Le.refl _) R (.str _ (okS_one hx (atI_mem e1)))⟩ hs
    · cases hf
  · split at hf
    · cases hx with
      | tup f t =>
        cases hy
        obtain ⟨v', e1, q⟩ := t.atI hf
        exact ix_tup value slice pins s σ _ _ _ v u Q I rx ry ⟨_, _, _, v', rfl, rfl, f.sq, e1, kk w _ (Le.refl _) R q⟩ hs
    · cases hf
  · split at hf
    · cases hx with
      | lst f t =>
        cases hy
        obtain ⟨v', e1, q⟩ := t.atI hf
        exact ix_list value slice pins s σ _ _ _ v u Q I rx ry ⟨_, _, _, v', rfl, rfl, f.sq, e1, kk w _ (Le.refl _) R q⟩ hs
    · cases hf
  · split at hf
    · cases hx with
      | arg f t =>
        cases hy
        obtain ⟨v', e1, q⟩ := t.atI hf
        exact ix_list value slice pins s σ _ _ _ v u Q I rx ry ⟨_, _, _, v', rfl, rfl, f.sq, e1, kk w _ (Le.refl _) R q⟩ hs
    · cases hf
  · split at hf
    · cases hx with
      | ktup f t =>
        cases hy
        obtain ⟨v', e1, q⟩ := t.atI hf
        exact ix_tup value slice pins s σ _ _ _ v u Q I rx ry ⟨_, _, _, v', rfl, rfl, FrT.sq (w := w) f.t, e1, kk w _ (Le.refl _) R q⟩ hs
    · cases hf
  · rename_i i
    split at hf
    · rename_i xs hm
      split at hf
      · cases hx with
        | obj hi =>
          cases hy
          obtain ⟨vs, h1, t⟩ := R.cells i _ hm
          obtain ⟨v', e1, q⟩ := t.atI hf
          exact ix_list value slice pins s σ _ _ _ v u Q I rx ry ⟨_, _, _, v', rfl, rfl, .inl (.inl h1), e1, kk w _ (Le.refl _) R q⟩ hs
      · cases hf
    · rename_i kvs hm
      cases hx with
      | obj hi =>
        obtain ⟨ps, h1, hk, t⟩ := R.cells i _ hm
        obtain ⟨key, e1, e2⟩ := Option.bind_eq_some_iff.mp hf
        obtain ⟨v', e3, q⟩ := getK_V hk t e2
        have ek := keyD_V hy e1
        subst ek
        cases (show v = Value.ref _ from rx)
        have g : DGet w.H (w.r i) (kV key) (some v') := by rw [← e3]; exact DGet.k h1
        have hu := hr.un
        unfold subscriptTail
        refine wpAny_bind ?_
        have hT := dict_typeIs I g
        rw [getitemInPython_of_ne hT.not_modules]
        refine wpAny_bind (wpAny_specialOf hT PySem.F.slot_dict_getitem.lookup ?_)
        have fin : wpAny (model X.prog X.w) X.A (subscripted slice false (.ref (w.r i)) u) (fun rr s₃ => wpAny (model X.prog X.w) X.A (letTemporaryGo value (.ref (w.r i)) rr >>= fun _ => pure rr) (EP X pins σ Q) X.xe s₃) X.xe s := by
          rw [hs]
          exact wpAny_operating (thn (d_getItem (A := X.A) (by omega) I g ry fun w' s' I' rw' => (⟨v', w.H, I', rw', kk w _ (Le.refl _) R q⟩ : EP X pins σ Q w' s')) fun rr s₃ h₃ => wpAny_bind (wpAny_letTemporaryGo (wpAny_pure h₃)))
        first
          | exact wpAny_pure (wpAny_bind fin)
          | exact wpAny_bind (wpAny_pure (wpAny_bind fin))
          | exact wpAny_bind fin
    · cases hf
  · cases hf
theorem s_ix {k : Nat} (hr : Room k X.A) (ha : PE X a (tE X.K W ma)) (hb : PE X b (tE X.K W mb)) (hs : PlainIx b := by exact fun _ _ => rfl) : PE X (.Subscript a b pos) (tE X.K W (e2 idxD ma mb)) :=
  PE.imp (pe_ix (ix_d hr) ha hb hs) fun σ H Q ⟨w, s, M, hH, R, S, h⟩ => by subst hH; exact tE_two R S h

/-! ### slices -/
def cutL (xs : List D) (lo hi : Option Int) : List D := (xs.drop (HT.sIx xs.length 0 lo)).take (HT.sIx xs.length xs.length hi - HT.sIx xs.length 0 lo)
theorem Dens.cut {K : PySem.W.Frag} {w : Wd} {vs : List V} {ds : List D} (t : Dens K w vs ds) (lo hi : Option Int) : Dens K w (cutV vs lo hi) (cutL ds lo hi) := by
  unfold cutV cutL
  rw [t.length]
  exact (t.drop _).take _
def cutD (M : Mem) (a : D) (lo hi : Option Int) : Option D := match a with
  | .str z => some (.str (cutS z lo hi))
  | .tup xs => some (.tup (cutL xs lo hi))
  | .arg xs => some (.lst (cutL xs lo hi))
  | a => (listD M a).map fun xs => .lst (cutL xs lo hi)
def listA (M : Mem) : D → Option (List D)
  | .arg xs => some xs
  | d => listD M d
theorem listA_rd {X : Cx} {w : Wd} {M : Mem} (R : Rep X.K w M) {v : V} {d : D} {ds : List D} (h : Den X.K w v d) (e : listA M d = some ds) : ∃ a vs, v = .ref a ∧ SqL X.K w.H a vs ∧ Dens X.K w vs ds := by
  unfold listA at e
  split at e
  · cases e
    cases h with
    | arg f t => exact ⟨_, _, rfl, f.sq, t⟩
  · obtain ⟨a, vs, h1, h2, h3⟩ := listD_rd R h e
    exact ⟨a, vs, h1, .inl h2, h3⟩
abbrev MO := MX (Option Int)
def tO (K : PySem.W.Frag) (W : WX) (m : MO) : TO := fun σ H Q => ∃ w s M, w.H = H ∧ Rep K w M ∧ SlotR K w σ s ∧ PostG K W w σ (fun b w' => Q b w'.H) (m s M)
theorem PO.imp {e : Option Expr} {t t' : TO} (h : PO X e t) (k : ∀ σ H Q, t' σ H Q → t σ H Q) : PO X e t' := ⟨fun pins s σ H Q I q => h.run pins s σ H Q I (k σ H Q q)⟩
def oNo : MO := fun _ M => .ok none M
def oYes (m : ME) : MO := fun s M => (m s M).bind fun d M' => match d with | .int i => .ok (some i) M' | _ => .no
theorem s_ono : PO X none (tO X.K W oNo) := PO.imp po_none fun σ H Q ⟨w, s, M, hH, R, S, h⟩ => by subst hH; exact h w (Le.refl _) R
theorem s_oyes (h : PE X e (tE X.K W m)) : PO X (some e) (tO X.K W (oYes m)) := PO.imp (po_some h) fun σ H Q ⟨w, s, M, hH, R, S, h⟩ => by
  subst hH
  show tE X.K W m σ w.H fun x H1 => ∃ i, x = .int i ∧ Q (some i) H1
  refine tE_bind R S h fun d M' w' v l R' q P => ?_
  cases q with
  | int i => exact ⟨i, rfl, P w' (Le.refl _) R'⟩
  | _ => exact P.elim
def eSl (ma : ME) (lo hi : MO) : ME := fun s M => (ma s M).bind fun d M1 => (lo s M1).bind fun l M2 => (hi s M2).bind fun h M3 => oo (cutD M3 d l h) M3
def lSl (ma : ME) (lo hi : MO) : MX (List D) := fun s M => (ma s M).bind fun d M1 => (lo s M1).bind fun l M2 => (hi s M2).bind fun h M3 => match listA M3 d with | some xs => .ok (cutL xs l h) M3 | none => .no
theorem okS_cut {z : Str} (h : okS z = true) (lo hi : Option Int) : okS (cutS z lo hi) = true := by
  have e : (cutS z lo hi).cps.toList = (z.cps.toList.drop (HT.sIx z.length 0 lo)).take (HT.sIx z.length z.length hi - HT.sIx z.length 0 lo) := by unfold cutS; simp
  refine okS_sub h (fun c hc => ?_) ?_
  · rw [e] at hc
    exact List.mem_of_mem_drop (List.mem_of_mem_take hc)
  · have e2 : (cutS z lo hi).length = ((cutS z lo hi).cps.toList).length := by simp [Str.length]
    rw [e2, e, List.length_take, List.length_drop]
    have := okS_len h
    simp [Str.length] at *
    omega
def rSlD (K : PySem.W.Frag) : V → Option Int → Option Int → Hp → VK → Prop := fun x lo hi H Q => ∃ w M d z, w.H = H ∧ Rep K w M ∧ Den K w x d ∧ cutD M d lo hi = some z ∧ ∀ w' v, Le w w' → Rep K w' M → Den K w' v z → Q v w'.H
theorem sl_d : SlR X (rSlD X.K) := by
  intro pins s σ H x v vl vu lo hi sl Q I rx hs pl pu ⟨w, M, d, z, hH, R, hx, hf, kk⟩
  subst hH
  unfold cutD at hf
  split at hf
  · cases hf
    cases hx with
    | str _ h => exact sl_str pins s σ _ _ v vl vu lo hi sl Q I rx hs pl pu ⟨_, rfl, okS_len h, kk w _ (Le.refl _) R (.str _ (okS_cut h lo hi))⟩
  · cases hf
    cases hx with
    | tup f t =>
      refine sl_tupF pins s σ _ _ v vl vu lo hi sl Q I rx hs pl pu ⟨_, _, rfl, f.sq, fun h => ?_, fun _ p o ho hp => ?_⟩
      · refine kk w _ (Le.refl _) R ?_
        have e : cutL ‹List D› lo hi = ‹List D› := by
          unfold cutL
          rw [← t.length, h.1, h.2, List.drop_zero, Nat.sub_zero, t.length, List.take_length]
        rw [e]
        exact .tup f t
      · exact kk (w.fz p (.frz o (.tup _))) _ (le_fz R hp) (rep_fz R hp) (.tup (.inl ⟨.inl rfl, o, ho, upd_same⟩) ((t.cut lo hi).mono (le_fz R hp)))
  · cases hf
    cases hx with
    | arg f t =>
      refine sl_list pins s σ _ _ v vl vu lo hi sl Q I rx hs pl pu ⟨_, _, rfl, f.sq, fun p hp => ?_⟩
      exact kk (w.fz p (.lst _)) _ (le_fz R hp) (rep_fz R hp) (.lst ⟨.inl rfl, .inl upd_same⟩ ((t.cut lo hi).mono (le_fz R hp)))
  · obtain ⟨xs, e1, rfl⟩ := Option.map_eq_some_iff.mp hf
    obtain ⟨a, vs, rfl, q1, t⟩ := listD_rd R hx e1
    refine sl_list pins s σ _ _ v vl vu lo hi sl Q I rx hs pl pu ⟨a, vs, rfl, .inl q1, fun p hp => ?_⟩
    exact kk (w.fz p (.lst _)) _ (le_fz R hp) (rep_fz R hp) (.lst ⟨.inl rfl, .inl upd_same⟩ ((t.cut lo hi).mono (le_fz R hp)))
theorem tO_bind {β : Type} {t : MO} {s : Sl} {M : Mem} {σ : L2.St} {w : Wd} {f : Option Int → Mem → RE β} {P : β → Wd → Prop} {Q : Option Int → Hp → Prop} (R : Rep X.K w M) (S : SlotR X.K w σ s)
    (h : PostG X.K W w σ P ((t s M).bind f)) (k : ∀ d M' w', Le w w' → Rep X.K w' M' → PostG X.K W w' σ P (f d M') → Q d w'.H) : tO X.K W t σ w.H Q :=
  ⟨w, s, M, rfl, R, S, tG_bind h k⟩
variable {lo hi : Option Expr} {ml mh : MO}
theorem s_sl {p2 : Pos} (ha : PE X a (tE X.K W ma)) (hl : PO X lo (tO X.K W ml)) (hh : PO X hi (tO X.K W mh)) : PE X (.Subscript a (.Slice lo hi none p2) pos) (tE X.K W (eSl ma ml mh)) :=
  PE.imp (pe_slice sl_d ha hl hh) fun σ H Q ⟨w, s, M, hH, R, S, h⟩ => by
    subst hH
    show tE X.K W ma σ w.H fun x H1 => tO X.K W ml σ H1 fun l H2 => tO X.K W mh σ H2 fun u H3 => rSlD X.K x l u H3 Q
    refine tE_bind R S h.toG fun d M1 w1 v l1 R1 q P => ?_
    refine tO_bind R1 (S.mono l1) P fun l M2 w2 l2 R2 P => ?_
    refine tO_bind R2 (S.mono (l1.trans l2)) P fun u M3 w3 l3 R3 P => ?_
    cases e : cutD M3 d l u with
    | none => rw [e] at P; exact P.elim
    | some z =>
      rw [e] at P
      exact ⟨w3, M3, d, z, rfl, R3, q.mono (l2.trans l3), e, fun w4 v4 l4 R4 q4 => P w4 l4 R4 v4 q4⟩
theorem s_lsl {p2 : Pos} (ha : PE X a (tE X.K W ma)) (hl : PO X lo (tO X.K W ml)) (hh : PO X hi (tO X.K W mh)) : PE X (.Subscript a (.Slice lo hi none p2) pos) (tL X.K W (lSl ma ml mh)) :=
  PE.imp (pe_slice sl_list ha hl hh) fun σ H Q ⟨w, s, M, hH, R, S, h⟩ => by
    subst hH
    show tE X.K W ma σ w.H fun x H1 => tO X.K W ml σ H1 fun l H2 => tO X.K W mh σ H2 fun u H3 => ∃ a xs, x = .ref a ∧ SqL X.K H3 a xs ∧ ∀ p, H3 p = none → Q (.ref p) (upd H3 p (.lst (cutV xs l u)))
    refine tE_bind R S h fun d M1 w1 v l1 R1 q P => ?_
    refine tO_bind R1 (S.mono l1) P fun l M2 w2 l2 R2 P => ?_
    refine tO_bind R2 (S.mono (l1.trans l2)) P fun u M3 w3 l3 R3 P => ?_
    cases e : listA M3 d with
    | none => rw [e] at P; exact P.elim
    | some xs =>
      rw [e] at P
      obtain ⟨a, vs, rfl, q1, t⟩ := listA_rd R3 (q.mono (l2.trans l3)) e
      exact ⟨a, vs, rfl, q1, fun p hp => P w3 (Le.refl _) R3 p _ hp (t.cut l u)⟩

/-! ### built-ins by their names -/
def rB (K : PySem.W.Frag) (f : Mem → List D → Option D) : List V → Hp → VK → Prop := fun vs H Q => ∃ w M ds z, w.H = H ∧ Rep K w M ∧ Dens K w vs ds ∧ f M ds = some z ∧ ∀ w' v, Le w w' → Rep K w' M → Den K w' v z → Q v w'.H
def eB (f : Mem → List D → Option D) (r : MX (List D)) : ME := fun s M => (r s M).bind fun ds M' => oo (f M' ds) M'
theorem tA_B {f : Mem → List D → Option D} {σ : L2.St} {H : Hp} {Q : VK} (h : tE X.K W (eB f r) σ H Q) : tA X.K W r σ H fun vs H1 => rB X.K f vs H1 Q := by
  obtain ⟨w, s, M, hH, R, S, h⟩ := h
  subst hH
  refine tA_bind R S h.toG fun ds M' w' vs l R' q P => ?_
  cases e : f M' ds with
  | none => rw [e] at P; exact P.elim
  | some z => rw [e] at P; exact ⟨w', M', ds, z, rfl, R', q, e, fun w2 v l2 R2 q2 => P w2 l2 R2 v q2⟩
theorem s_blt {x : Str} {p : Pos} {id : String} {f : Mem → List D → Option D} (hc : CallR X (.builtin id) (rB X.K f)) (hv : bootBuiltins x = some (.builtin id)) (ha : PA X (e :: es) (tA X.K W r)) (hm : X.mg x = none) (hg : Gl X x := by rfl) (hn : x ≠ "__name__" := by decide)
    (hdb : (x == ("__debug__" : Str)) = false := by decide) (he : starEach (e :: es) X.env = (false, eval e X.env) :: starEach es X.env := by rfl) (hpl : (backTo pos (starEach es X.env)).any (·.1) = false := by rfl) : PE X (.Call (.Name x p) (e :: es) [] pos) (tE X.K W (eB f r)) :=
  PE.imp (pe_callB hc hg hm hv ha hn hdb he hpl) fun σ H Q h => tA_B h
theorem s_bty {x : Str} {p : Pos} {T : String} {f : Mem → List D → Option D} (hc : CallR X (.type T) (rB X.K f)) (hv : bootBuiltins x = some (.type T)) (ha : PA X (e :: es) (tA X.K W r)) (hm : X.mg x = none) (hg : Gl X x := by rfl) (hn : x ≠ "__name__" := by decide)
    (hdb : (x == ("__debug__" : Str)) = false := by decide) (he : starEach (e :: es) X.env = (false, eval e X.env) :: starEach es X.env := by rfl) (hpl : (backTo pos (starEach es X.env)).any (·.1) = false := by rfl) : PE X (.Call (.Name x p) (e :: es) [] pos) (tE X.K W (eB f r)) :=
  PE.imp (pe_callTy hc hg hm hv ha hn hdb he hpl) fun σ H Q h => tA_B h
/-- a built-in type's name as a value -/
theorem s_bname {x : Str} {T : String} (hv : bootBuiltins x = some (.type T)) (hm : X.mg x = none) (hg : Gl X x := by rfl) (hn : x ≠ "__name__" := by decide) (hdb : (x == ("__debug__" : Str)) = false := by decide) : PE X (.Name x pos) (tE X.K W (eC (.ty T))) :=
  s_const (pe_bltn (v := .ty T) hg hm hv rfl hn hdb) fun _ => .ty T
theorem Dens.one_inv {K : PySem.W.Frag} {w : Wd} {vs : List V} {d : D} (t : Dens K w vs [d]) : ∃ v, vs = [v] ∧ Den K w v d := by
  cases t with | cons h t => cases t; exact ⟨_, rfl, h⟩
theorem Dens.two_inv {K : PySem.W.Frag} {w : Wd} {vs : List V} {d e : D} (t : Dens K w vs [d, e]) : ∃ v u, vs = [v, u] ∧ Den K w v d ∧ Den K w u e := by
  cases t with | cons h t => cases t with | cons h2 t => cases t; exact ⟨_, _, rfl, h, h2⟩
def lenD (M : Mem) : List D → Option D
  | [.str x] => some (.int x.length)
  | [.obj i] => match M[i]? with
    | some (.lst xs) => some (.int xs.length)
    | some (.dct kvs) => some (.int kvs.length)
    | _ => none
  | [.tup xs] => some (.int xs.length)
  | [.lst xs] => some (.int xs.length)
  | [.arg xs] => some (.int xs.length)
  | _ => none
theorem c_len : CallR X (.builtin "len") (rB X.K lenD) := by
  intro pins s σ H vs us Q I rv ⟨w, M, ds, z, hH, R, t, hf, kk⟩
  subst hH
  unfold lenD at hf
  split at hf
  · cases hf
    obtain ⟨v, rfl, q⟩ := t.one_inv
    cases q with
    | str _ h => exact call_len_str pins s σ _ _ us Q I rv ⟨_, rfl, okS_len h, kk w _ (Le.refl _) R (.int _)⟩
  · rename_i i
    obtain ⟨v, rfl, q⟩ := t.one_inv
    split at hf
    · rename_i xs hm
      cases hf
      cases q
      obtain ⟨ys, h1, t2⟩ := R.cells i _ hm
      exact call_len_seq pins s σ _ _ us Q I rv ⟨_, _, rfl, .inl (.inl (.inl h1)), by rw [t2.length]; exact kk w _ (Le.refl _) R (.int _)⟩
    · rename_i kvs hm
      cases hf
      cases q
      obtain ⟨ps, h1, hk, t2⟩ := R.cells i _ hm
      have el : ps.length = kvs.length := by have := t2.length; simpa using this
      exact call_lenD pins s σ _ _ us Q I rv ⟨_, _, rfl, h1, by rw [el]; exact kk w _ (Le.refl _) R (.int _)⟩
    · cases hf
  · cases hf
    obtain ⟨v, rfl, q⟩ := t.one_inv
    cases q with
    | tup f t2 => exact call_len_seq pins s σ _ _ us Q I rv ⟨_, _, rfl, .inr f.sq, by rw [t2.length]; exact kk w _ (Le.refl _) R (.int _)⟩
  · cases hf
    obtain ⟨v, rfl, q⟩ := t.one_inv
    cases q with
    | lst f t2 => exact call_len_seq pins s σ _ _ us Q I rv ⟨_, _, rfl, .inl f.sq, by rw [t2.length]; exact kk w _ (Le.refl _) R (.int _)⟩
  · cases hf
    obtain ⟨v, rfl, q⟩ := t.one_inv
    cases q with
    | arg f t2 => exact call_len_seq pins s σ _ _ us Q I rv ⟨_, _, rfl, .inl f.sq, by rw [t2.length]; exact kk w _ (Le.refl _) R (.int _)⟩
  · cases hf
def boolD : D → Option Bool
  | .bl b => some b
  | _ => none
def bools : List D → Option (List Bool)
  | [] => some []
  | .bl b :: r => (bools r).map (b :: ·)
  | _ :: _ => none
theorem bools_V {K : PySem.W.Frag} {w : Wd} : ∀ {vs : List V} {ds : List D} {bs : List Bool}, Dens K w vs ds → bools ds = some bs → vs = bs.map V.bl
  | _, [], _, .nil, e => by cases e; rfl
  | _, .bl b :: r, _, .cons h t, e => by
    obtain ⟨cs, e1, rfl⟩ := Option.map_eq_some_iff.mp e
    cases h
    rw [bools_V t e1]
    rfl
  | _, .non :: _, _, .cons h t, e => by cases e
  | _, .int _ :: _, _, .cons h t, e => by cases e
  | _, .str _ :: _, _, .cons h t, e => by cases e
  | _, .tup _ :: _, _, .cons h t, e => by cases e
  | _, .lst _ :: _, _, .cons h t, e => by cases e
  | _, .obj _ :: _, _, .cons h t, e => by cases e
  | _, .adr _ :: _, _, .cons h t, e => by cases e
  | _, .ty _ :: _, _, .cons h t, e => by cases e
  | _, .arg _ :: _, _, .cons h t, e => by cases e
  | _, .glo _ :: _, _, .cons h t, e => by cases e
  | _, .ktup _ :: _, _, .cons h t, e => by cases e
  | _, .utup _ :: _, _, .cons h t, e => by cases e
def allD (M : Mem) : List D → Option D
  | [d] => (listD M d).bind fun xs => (bools xs).map fun bs => .bl (bs.all id)
  | _ => none
def anyD (M : Mem) : List D → Option D
  | [d] => (listD M d).bind fun xs => (bools xs).map fun bs => .bl (bs.any id)
  | _ => none
theorem c_all (hc : X.calm = true) : CallR X (.builtin "all") (rB X.K allD) := by
  intro pins s σ H vs us Q I rv ⟨w, M, ds, z, hH, R, t, hf, kk⟩
  subst hH
  unfold allD at hf
  split at hf
  · obtain ⟨xs, e1, e2⟩ := Option.bind_eq_some_iff.mp hf
    obtain ⟨bs, e3, rfl⟩ := Option.map_eq_some_iff.mp e2
    obtain ⟨v, rfl, q⟩ := t.one_inv
    obtain ⟨a, ys, rfl, h1, t2⟩ := listD_rd R q e1
    have ev := bools_V t2 e3
    subst ev
    exact cr_all hc pins s σ _ _ us Q I rv ⟨a, bs, rfl, .inl h1, kk w _ (Le.refl _) R (.bl _)⟩
  · cases hf
theorem c_any (hc : X.calm = true) : CallR X (.builtin "any") (rB X.K anyD) := by
  intro pins s σ H vs us Q I rv ⟨w, M, ds, z, hH, R, t, hf, kk⟩
  subst hH
  unfold anyD at hf
  split at hf
  · obtain ⟨xs, e1, e2⟩ := Option.bind_eq_some_iff.mp hf
    obtain ⟨bs, e3, rfl⟩ := Option.map_eq_some_iff.mp e2
    obtain ⟨v, rfl, q⟩ := t.one_inv
    obtain ⟨a, ys, rfl, h1, t2⟩ := listD_rd R q e1
    have ev := bools_V t2 e3
    subst ev
    exact cr_any hc pins s σ _ _ us Q I rv ⟨a, bs, rfl, .inl h1, kk w _ (Le.refl _) R (.bl _)⟩
  · cases hf
def intD (_ : Mem) : List D → Option D
  | [.int i] => some (.int i)
  | [.bl b] => some (.int (if b then 1 else 0))
  | _ => none
theorem c_int : CallR X (.type "int") (rB X.K intD) := by
  intro pins s σ H vs us Q I rv ⟨w, M, ds, z, hH, R, t, hf, kk⟩
  subst hH
  unfold intD at hf
  split at hf
  · cases hf
    obtain ⟨v, rfl, q⟩ := t.one_inv
    cases q
    exact call_int1 pins s σ _ _ us Q I rv (.inl ⟨_, rfl, kk w _ (Le.refl _) R (.int _)⟩)
  · cases hf
    obtain ⟨v, rfl, q⟩ := t.one_inv
    cases q
    exact call_int1 pins s σ _ _ us Q I rv (.inr ⟨_, rfl, kk w _ (Le.refl _) R (.int _)⟩)
  · cases hf
def tupleD (M : Mem) : List D → Option D
  | [d] => (seqD M d).map .tup
  | _ => none
theorem c_tuple : CallR X (.type "tuple") (rB X.K tupleD) := by
  intro pins s σ H vs us Q I rv ⟨w, M, ds, z, hH, R, t, hf, kk⟩
  subst hH
  unfold tupleD at hf
  split at hf
  · obtain ⟨xs, e1, rfl⟩ := Option.map_eq_some_iff.mp hf
    obtain ⟨v, rfl, q⟩ := t.one_inv
    cases q with
    | tup f t2 =>
      cases e1
      exact call_tupleF pins s σ _ _ us Q I rv ⟨_, _, rfl, .inr ⟨f.sq, kk w _ (Le.refl _) R (.tup f t2)⟩⟩
    | lst f t2 =>
      cases e1
      refine call_tupleF pins s σ _ _ us Q I rv ⟨_, _, rfl, .inl ⟨f.sq, fun p o ho hp => ?_⟩⟩
      exact kk (w.fz p (.frz o (.tup _))) _ (le_fz R hp) (rep_fz R hp) (.tup (.inl ⟨.inl rfl, o, ho, upd_same⟩) (t2.mono (le_fz R hp)))
    | obj hi =>
      obtain ⟨a, ys, ea, h1, t2⟩ := listD_rd R (.obj hi) (show listD M _ = some xs from e1)
      rw [ea] at rv
      refine call_tupleF pins s σ _ _ us Q I rv ⟨a, ys, rfl, .inl ⟨.inl h1, fun p o ho hp => ?_⟩⟩
      exact kk (w.fz p (.frz o (.tup _))) _ (le_fz R hp) (rep_fz R hp) (.tup (.inl ⟨.inl rfl, o, ho, upd_same⟩) (t2.mono (le_fz R hp)))
    | ktup f t2 =>
      cases e1
      exact call_tupleF pins s σ _ _ us Q I rv ⟨_, _, rfl, .inr ⟨FrT.sq (w := w) f.t, kk w _ (Le.refl _) R (.tup f.t t2)⟩⟩
    | _ => cases e1
  · cases hf
def maxD (_ : Mem) : List D → Option D
  | [.int i, .int j] => some (.int (if j > i then j else i))
  | _ => none
def minD (_ : Mem) : List D → Option D
  | [.int i, .int j] => some (.int (if j < i then j else i))
  | _ => none
theorem c_max (hc : X.calm = true) : CallR X (.builtin "max") (rB X.K maxD) := by
  intro pins s σ H vs us Q I rv ⟨w, M, ds, z, hH, R, t, hf, kk⟩
  subst hH
  unfold maxD at hf
  split at hf
  · cases hf
    obtain ⟨v, u, rfl, q, q2⟩ := t.two_inv
    cases q; cases q2
    exact call_max2 hc pins s σ _ _ us Q I rv ⟨_, _, rfl, kk w _ (Le.refl _) R (.int _)⟩
  · cases hf
theorem c_min (hc : X.calm = true) : CallR X (.builtin "min") (rB X.K minD) := by
  intro pins s σ H vs us Q I rv ⟨w, M, ds, z, hH, R, t, hf, kk⟩
  subst hH
  unfold minD at hf
  split at hf
  · cases hf
    obtain ⟨v, u, rfl, q, q2⟩ := t.two_inv
    cases q; cases q2
    exact call_min2 hc pins s σ _ _ us Q I rv ⟨_, _, rfl, kk w _ (Le.refl _) R (.int _)⟩
  · cases hf
/-- isinstance(x, T) of built-in types -/
def tyD (M : Mem) : D → Option String
  | .non => some "NoneType"
  | .bl _ => some "bool"
  | .int _ => some "int"
  | .str _ => some "str"
  | .tup _ => some "tuple"
  | .lst _ => some "list"
  | .ktup _ => some "tuple"
  | .obj i => match M[i]? with | some (.lst _) => some "list" | some (.dct _) => some "dict" | _ => none
  | _ => none
def subTy (t c : String) : Bool := t == c || (t == "bool" && c == "int")
def isiTys : List String := ["int", "str", "tuple", "list", "bool", "dict"]
def isiD (M : Mem) : List D → Option D
  | [x, .ty c] => if c ∈ isiTys then (tyD M x).map fun t => .bl (subTy t c) else none
  | [x, .tup [.ty c, .ty e]] => if c ∈ isiTys ∧ e ∈ isiTys then (tyD M x).map fun t => .bl (subTy t c || subTy t e) else none
  | _ => none
theorem tyD_X {K : PySem.W.Frag} {w : Wd} {M : Mem} (R : Rep K w M) {v : V} {d : D} {t : String} (h : Den K w v d) (e : tyD M d = some t) : TyX K w.H v (.type t) ∧ t ∈ ["NoneType", "bool", "int", "str", "tuple", "list", "dict"] := by
  cases h with
  | non => cases e; exact ⟨.base .non, by simp⟩
  | bl b => cases e; exact ⟨.base (.bl b), by simp⟩
  | int b => cases e; exact ⟨.base (.int b), by simp⟩
  | str b _ => cases e; exact ⟨.base (.str b), by simp⟩
  | tup f t =>
    cases e
    refine ⟨?_, by simp⟩
    rcases f with ⟨_, o, _, f⟩ | ⟨o, its, n, h1, h2, _⟩
    · exact .fTuple f
    · exact .kTuple h1 h2
  | ktup f t =>
    cases e
    obtain ⟨o, its, n, h1, h2, _⟩ := f
    exact ⟨.kTuple h1 h2, by simp⟩
  | lst f t =>
    cases e
    refine ⟨?_, by simp⟩
    rcases f with ⟨_, f | ⟨o, f⟩⟩
    · exact .base (.lst f)
    · exact .base (.frz f)
  | obj hi =>
    rename_i i
    unfold tyD at e
    dsimp only at e
    split at e
    · rename_i xs hm
      cases e
      obtain ⟨vs, h1, _⟩ := R.cells i _ hm
      exact ⟨.base (.lst h1), by simp⟩
    · rename_i xs hm
      cases e
      obtain ⟨vs, h1, _⟩ := R.cells i _ hm
      exact ⟨.base (.dK h1), by simp⟩
    · cases e
  | _ => cases e
theorem kitB_tab : (["NoneType", "bool", "int", "str", "tuple", "list", "dict"].all fun t => isiTys.all fun c => kitB t c == some (subTy t c)) = true := by decide +kernel
theorem kit_tab {K : PySem.W.Frag} {t c : String} (ht : t ∈ ["NoneType", "bool", "int", "str", "tuple", "list", "dict"]) (hc : c ∈ isiTys) : PySem.W.kitOne K (.type t) (.type c) = some (subTy t c) := by
  have h := List.all_eq_true.mp (List.all_eq_true.mp kitB_tab t ht) c hc
  exact kit_ty (beq_iff_eq.mp h)
theorem call_isiF {X : Cx} : CallR X (.builtin "isinstance") (fun xs H Q => ∃ (x : V) (tp : Addr) (cs : List V) (t : Value) (us : List Value) (b : Bool), xs = [x, .ref tp] ∧ Rd H tp (.tup cs) ∧ Paired ClsV cs us ∧ TyX X.K H x t ∧ PySem.W.kitAny X.K t us = some b ∧ Q (.bl b) H) := by
  intro pins s σ H xs us Q I r h
  obtain ⟨x, tp, cs, t, ws, b, rfl, hT, k, ty, e, q⟩ := h
  obtain ⟨u1, u2, rfl, r1, r2⟩ := vals2 r
  cases (show u2 = Value.ref tp from r2)
  obtain ⟨P, Z, p, hx⟩ := kit_of I r1 ty
  obtain ⟨_, its, rv, o, h1, h2, n, h3⟩ := (show ObjOk X.prog X.w H s.heap tp (.tup cs) from hT.ok I.hok)
  have e3 := ClsV.all k rv
  subst e3
  obtain ⟨oc, od, dt, sl⟩ := o
  simp only at h2 h3
  subst h2 h3
  exact PySem.W.kia_tup Z I.kIn p h1 e hx fun tk => ⟨.bl b, H, I.tok tk, rfl, q⟩
theorem c_isi : CallR X (.builtin "isinstance") (rB X.K isiD) := by
  intro pins s σ H vs us Q I rv ⟨w, M, ds, z, hH, R, t, hf, kk⟩
  subst hH
  unfold isiD at hf
  split at hf
  · split at hf
    · rename_i hc
      obtain ⟨ty, e1, rfl⟩ := Option.map_eq_some_iff.mp hf
      obtain ⟨v, u, rfl, q, q2⟩ := t.two_inv
      cases q2
      obtain ⟨h1, h2⟩ := tyD_X R q e1
      exact call_isi pins s σ _ _ us Q I rv ⟨v, _, _, _, _, rfl, .ty _, h1, kit_tab h2 hc, kk w _ (Le.refl _) R (.bl _)⟩
    · cases hf
  · rename_i x c e
    split at hf
    · rename_i hc
      obtain ⟨ty, e1, rfl⟩ := Option.map_eq_some_iff.mp hf
      obtain ⟨v, u, rfl, q, q2⟩ := t.two_inv
      cases q2 with
      | tup f t2 =>
        obtain ⟨v1, v2, rfl, q3, q4⟩ := t2.two_inv
        cases q3; cases q4
        obtain ⟨h1, h2⟩ := tyD_X R q e1
        rcases f with ⟨_, o, _, f⟩ | f
        · refine call_isiF pins s σ _ _ us Q I rv ⟨v, _, _, _, _, _, rfl, .inr ⟨o, f⟩, .cons (.ty _) (.cons (.ty _) .nil), h1, ?_, kk w _ (Le.refl _) R (.bl _)⟩
          refine kitAny_cons (kit_tab h2 hc.1) (fun z => ?_) (fun z => by rw [z]; rfl)
          rw [z, Bool.false_or]
          exact kitAny_cons (kit_tab h2 hc.2) (fun z => by rw [z]; exact kitAny_nil) (fun z => z)
        · obtain ⟨⟨oc, od, dt, sl⟩, its, n, k1, k2, _, k3, k4, k5⟩ := f
          simp only at k2 k3
          subst k2 k3
          have e5 : its.toList = [Value.type c, Value.type e] := ClsV.all (.cons (.ty _) (.cons (.ty _) .nil)) k5
          refine call_isiK pins s σ _ _ us Q I rv ⟨v, _, od, [.type c, .type e], n, sl, _, _, rfl, ?_, h1, ?_, kk w _ (Le.refl _) R (.bl _)⟩
          · rw [k1, ← e5]
          · refine kitAny_cons (kit_tab h2 hc.1) (fun z => ?_) (fun z => by rw [z]; rfl)
            rw [z, Bool.false_or]
            exact kitAny_cons (kit_tab h2 hc.2) (fun z => by rw [z]; exact kitAny_nil) (fun z => z)
    · cases hf
  · cases hf
end
end MM
namespace MM
open PySem PySem.Spec PyProof.Rows L2
/-! ### methods of built-in types: the receiver, the arguments, the small heap behind -/
def rMt (K : PySem.W.Frag) (f : Mem → D → List D → Option (D × Mem)) : V → List V → Hp → VK → Prop := fun x xs H Q => ∃ w M d ds z M', w.H = H ∧ Rep K w M ∧ Den K w x d ∧ Dens K w xs ds ∧ f M d ds = some (z, M') ∧
  ∀ w' v, Le w w' → Rep K w' M' → Den K w' v z → Q v w'.H
def tyIs (T : String) (M : Mem) : D → Bool
  | .str _ => T == "str"
  | .int _ => T == "int"
  | .lst _ => T == "list"
  | .ktup _ => T == "tuple"
  | .obj i => match M[i]? with | some (.lst _) => T == "list" | some (.dct _) => T == "dict" | _ => false
  | _ => false
def eM (T : String) (f : Mem → D → List D → Option (D × Mem)) (mo : ME) (r : MX (List D)) : ME := fun s M => (mo s M).bind fun d M1 => if tyIs T M1 d = true then (r s M1).bind fun ds M2 => match f M2 d ds with
  | some (z, M') => .ok z M'
  | none => .no
  else .no
theorem tyIs_V {K : PySem.W.Frag} {w : Wd} {M : Mem} {T : String} (R : Rep K w M) {v : V} {d : D} (h : Den K w v d) (e : tyIs T M d = true) : tyV K T v w.H := by
  cases h with
  | str x _ => exact beq_iff_eq.mp e
  | int x => exact beq_iff_eq.mp e
  | lst f t => exact .inl ⟨beq_iff_eq.mp e, _, f.sq⟩
  | ktup f t =>
    obtain ⟨o, its, n, h1, h2, h3, _⟩ := f
    exact .inr (.inl ⟨beq_iff_eq.mp e, o, h1, h2, h3⟩)
  | obj hi =>
    rename_i i
    unfold tyIs at e
    dsimp only at e
    split at e
    · rename_i xs hm
      obtain ⟨vs, h1, _⟩ := R.cells i _ hm
      exact .inl ⟨beq_iff_eq.mp e, _, .inl (.inl h1)⟩
    · rename_i xs hm
      obtain ⟨vs, h1, _⟩ := R.cells i _ hm
      exact .inr (.inr (.inl ⟨beq_iff_eq.mp e, .inl ⟨_, h1⟩⟩))
    · cases e
  | _ => cases e
section
variable {X : Cx} {W : WX} {pos : Pos} {e a b o : Expr} {es : List Expr} {m ma mb mo : ME} {r : MX (List D)}
section
variable {T id : String} {name : Str} {apos cpos : Pos} {f : Mem → D → List D → Option (D × Mem)}
theorem s_meth (pa : PlainAttrs T) (slot : Slot T name id) (hty : typeOf (.builtin id) = pure (.type "method_descriptor")) (hm : MtR X id (rMt X.K f)) (ho : PE X o (tE X.K W mo)) (ha : PA X (e :: es) (tA X.K W r))
    (hbase : attributeBase o name X.env (eval o X.env) = eval o X.env := by rfl)
    (hfew : ((backTo cpos (starEach (e :: es) X.env)).all (fun x => !x.1) && (backToKw cpos (keywordEach [] X.env)).all (fun x => x.1.isSome)
      && decide ((e :: es).length + ([] : List Keyword).length + (if ([] : List Keyword).isEmpty then 0 else 1) < 30)) = true := by rfl)
    (hline : (apos.endLine == cpos.line) = true := by rfl) (hs : starEach (e :: es) X.env = (false, eval e X.env) :: starEach es X.env := by rfl) (hplain : (backTo cpos (starEach es X.env)).any (·.1) = false := by rfl) :
    PE X (.Call (.Attribute o name apos) (e :: es) [] cpos) (tE X.K W (eM T f mo r)) :=
  PE.imp (pe_bm pa slot hty hm ho ha hbase hfew hline hs hplain) fun σ H Q ⟨w, s, M, hH, R, S, h⟩ => by
    subst hH
    show tE X.K W mo σ w.H fun x H1 => tyV X.K T x H1 ∧ tA X.K W r σ H1 fun xs H2 => rMt X.K f x xs H2 Q
    refine tE_bind R S h.toG fun d M1 w1 v l1 R1 q P => ?_
    split at P
    · rename_i ht
      refine ⟨tyIs_V R1 q ht, tA_bind R1 (S.mono l1) P fun ds M2 w2 vs l2 R2 q2 P => ?_⟩
      split at P
      · rename_i z M' ez
        exact ⟨w2, M2, d, ds, z, M', rfl, R2, q.mono l2, q2, ez, fun w3 v3 l3 R3 q3 => P w3 l3 R3 v3 q3⟩
      · exact P.elim
    · exact P.elim
theorem s_meth0 (pa : PlainAttrs T) (slot : Slot T name id) (hty : typeOf (.builtin id) = pure (.type "method_descriptor")) (hm : MtR X id (rMt X.K f)) (ho : PE X o (tE X.K W mo))
    (hbase : attributeBase o name X.env (eval o X.env) = eval o X.env := by rfl) (hline : (apos.endLine == cpos.line) = true := by rfl) : PE X (.Call (.Attribute o name apos) [] [] cpos) (tE X.K W (eM T f mo aNil)) :=
  PE.imp (pe_bm0 pa slot hty hm ho hbase hline) fun σ H Q ⟨w, s, M, hH, R, S, h⟩ => by
    subst hH
    show tE X.K W mo σ w.H fun x H1 => tyV X.K T x H1 ∧ rMt X.K f x [] H1 Q
    refine tE_bind R S h.toG fun d M1 w1 v l1 R1 q P => ?_
    split at P
    · rename_i ht
      refine ⟨tyIs_V R1 q ht, ?_⟩
      have P : PostG X.K W w1 σ (fun d w' => ∀ v, Den X.K w' v d → Q v w'.H) (match f M1 d [] with | some (z, M') => .ok z M' | none => .no) := P
      split at P
      · rename_i z M' ez
        exact ⟨w1, M1, d, [], z, M', rfl, R1, q, .nil, ez, fun w3 v3 l3 R3 q3 => P w3 l3 R3 v3 q3⟩
      · exact P.elim
    · exact P.elim
end
def appendD (M : Mem) (d : D) (ds : List D) : Option (D × Mem) := match d, ds with
  | .obj i, [x] => match M[i]? with
    | some (.lst xs) => if xs.length < sizeLine then some (.non, M.set i (.lst (xs ++ [x]))) else none
    | _ => none
  | _, _ => none
theorem obj_inv {K : PySem.W.Frag} {w : Wd} {v : V} {i : Nat} (h : Den K w v (.obj i)) : v = .ref (w.r i) ∧ i < w.n := by
  cases h with | obj hi => exact ⟨rfl, hi⟩
theorem m_append : MtR X "list.append" (rMt X.K appendD) := by
  intro pins s σ H x xs v us Q I rx rv ⟨w, M, d, ds, z, M', hH, R, hx, t, hf, kk⟩
  subst hH
  unfold appendD at hf
  split at hf
  · rename_i i y
    split at hf
    · rename_i ys hm
      split at hf
      · rename_i hz
        cases hf
        obtain ⟨rfl, hi⟩ := obj_inv hx
        obtain ⟨vs, h1, t2⟩ := R.cells i _ hm
        obtain ⟨u, rfl, q⟩ := t.one_inv
        refine mt_append pins s σ _ _ _ v us Q I rx rv ⟨_, vs, u, rfl, rfl, h1, by rw [t2.length]; exact hz, ?_⟩
        have l := le_put (o := .lst (vs ++ [u])) R hi
        exact kk (w.put i (.lst (vs ++ [u]))) .non l (rep_put R hi ⟨_, upd_same, (t2.mono l).append (.one (q.mono l))⟩) .non
      · cases hf
    · cases hf
  · cases hf
theorem s_append {name : Str} {apos cpos : Pos} (ho : PE X o (tE X.K W mo)) (ha : PA X [e] (tA X.K W r)) (hn : name = "append" := by rfl) (hbase : attributeBase o "append" X.env (eval o X.env) = eval o X.env := by rfl)
    (hfew : ((backTo cpos (starEach [e] X.env)).all (fun x => !x.1) && (backToKw cpos (keywordEach [] X.env)).all (fun x => x.1.isSome)
      && decide ([e].length + ([] : List Keyword).length + (if ([] : List Keyword).isEmpty then 0 else 1) < 30)) = true := by rfl)
    (hline : (apos.endLine == cpos.line) = true := by rfl) (hs : starEach [e] X.env = (false, eval e X.env) :: starEach [] X.env := by rfl) (hplain : (backTo cpos (starEach [] X.env)).any (·.1) = false := by rfl) :
    PE X (.Call (.Attribute o name apos) [e] [] cpos) (tE X.K W (eM "list" appendD mo r)) := by
  subst hn
  exact s_meth PySem.F.plainAttrs_list PySem.F.slot_list_append PySem.F.type_list_append m_append ho ha hbase hfew hline hs hplain

/-! ### xs[i] = v -/
def setAt (M : Mem) (o i v : D) : Option Mem := match o with
  | .obj k => match M[k]? with
    | some (.lst xs) => match i with
      | .int j => (ixN xs.length j).map fun n => M.set k (.lst (xs.set n v))
      | _ => none
    | some (.dct kvs) => (keyD i).bind fun key => if kvs.length < sizeLine then some (M.set k (.dct (putKD kvs key v))) else none
    | _ => none
  | _ => none
where putKD (kvs : List (Key × D)) (k : Key) (v : D) : List (Key × D) :=
  if (kvs.any fun kv => decide (kv.1 = k)) = true then kvs.map (fun kv => if kv.1 = k then (kv.1, v) else kv) else kvs ++ [(k, v)]
theorem putKD_V {K : PySem.W.Frag} {w : Wd} {ps : List (Key × V)} {kvs : List (Key × D)} {k : Key} {v : V} {d : D} (h : ps.map (·.1) = kvs.map (·.1)) (t : Dens K w (ps.map (·.2)) (kvs.map (·.2))) (q : Den K w v d) :
    (putK ps k v).map (·.1) = (setAt.putKD kvs k d).map (·.1) ∧ Dens K w ((putK ps k v).map (·.2)) ((setAt.putKD kvs k d).map (·.2)) := by
  unfold putK setAt.putKD
  rw [any_key h]
  split
  · rename_i hh
    clear hh
    induction ps generalizing kvs with
    | nil => cases kvs with | nil => exact ⟨rfl, .nil⟩ | cons _ _ => cases h
    | cons p ps ih =>
      cases kvs with
      | nil => cases h
      | cons c kvs =>
        rw [List.map_cons, List.map_cons] at h t
        injection h with h1 h2
        cases t with
        | cons t1 t2 =>
          obtain ⟨i1, i2⟩ := ih h2 t2
          simp only [List.map_cons, h1]
          by_cases e : c.1 = k
          · simp only [e, if_true]
            exact ⟨by rw [i1], .cons q i2⟩
          · simp only [e, if_false]
            exact ⟨by rw [i1, h1], .cons t1 i2⟩
  · simp only [List.map_append, List.map_cons, List.map_nil, h]
    exact ⟨trivial, t.append (.one q)⟩
def sSetAt (mv mo mi : ME) : MS := fun s M => (mv s M).st s fun v M1 => (mo s M1).st s fun o M2 => (mi s M2).st s fun i M3 => match setAt M3 o i v with
  | some M4 => .nx s M4
  | none => .no
def rSetD (K : PySem.W.Frag) : TSet := fun o i v H Q => ∃ w M od id vd M', w.H = H ∧ Rep K w M ∧ Den K w o od ∧ Den K w i id ∧ Den K w v vd ∧ setAt M od id vd = some M' ∧ ∀ w', Le w w' → Rep K w' M' → Q w'.H
theorem set_d {k : Nat} (hr : Room k X.A) : PSet X (rSetD X.K) := by
  intro pins s σ H o i v ov iv u Q I ro ri rv ⟨w, M, od, id, vd, M', hH, R, ho, hi, hv, hf, kk⟩
  subst hH
  unfold setAt at hf
  split at hf
  · rename_i j
    split at hf
    · rename_i xs hm
      split at hf
      · rename_i n
        obtain ⟨p, e1, rfl⟩ := Option.map_eq_some_iff.mp hf
        obtain ⟨rfl, hj⟩ := obj_inv ho
        obtain ⟨vs, h1, t2⟩ := R.cells j _ hm
        cases hi
        refine set_list pins s σ _ _ _ _ ov iv u Q I ro ri rv ⟨_, vs, _, p, rfl, rfl, h1, by rw [t2.length]; exact e1, ?_⟩
        have l := le_put (o := .lst (vs.set p v)) R hj
        exact kk (w.put j (.lst (vs.set p v))) l (rep_put R hj ⟨_, upd_same, (t2.mono l).set (hv.mono l) p⟩)
      · cases hf
    · rename_i kvs hm
      obtain ⟨key, e1, e2⟩ := Option.bind_eq_some_iff.mp hf
      split at e2
      · rename_i hz
        cases e2
        obtain ⟨rfl, hj⟩ := obj_inv ho
        obtain ⟨ps, h1, hk, t2⟩ := R.cells j _ hm
        have ek := keyD_V hi e1
        subst ek
        have el : ps.length = kvs.length := by have := congrArg List.length hk; simpa using this
        cases (show ov = Value.ref _ from ro)
        have hu := hr.un
        refine d_setItem (A := X.A) (by omega) I (DPut.k (k := key) h1 (by rw [el]; exact hz)) ri rv fun s' I' => ⟨_, I', ?_⟩
        have l := le_put (o := .dK (putK ps key v)) R hj
        obtain ⟨k1, k2⟩ := putKD_V (k := key) hk (t2.mono l) (hv.mono l)
        exact kk (w.put j (.dK (putK ps key v))) l (rep_put R hj ⟨_, upd_same, k1, k2⟩)
      · cases e2
    · cases hf
  · cases hf
theorem s_setAt {k : Nat} {i : Expr} {mv mi : ME} {p2 : Pos} (hr : Room k X.A) (hv : PE X e (tE X.K W mv)) (ho : PE X o (tE X.K W mo)) (hi : PE X i (tE X.K W mi))
    (ha : ∀ v, assign (.Subscript o i p2) X.env v = (do
      let ov ← holding [v] (eval o X.env)
      let iv ← holding [v, ov] (eval i X.env)
      standAt p2
      holding [v, ov, iv] (setItem ov iv v)
      release [v, ov, iv] []) := by intro _; rfl)
    (hs : swapsWithSole [.Subscript o i p2] e pos.line X.env = pure false := by rfl) (hw : swappedStores [.Subscript o i p2] e X.env = pure none := by rfl)
    (h1 : (assignEach [.Subscript o i p2] X.env).map (·.2) = [assign (.Subscript o i p2) X.env] := by rfl) : PS X (.Assign [.Subscript o i p2] e pos) (tS X.K W (sSetAt mv mo mi)) :=
  PS.imp (ps_asg hv (pg_sub ho hi (set_d hr) ha) hs hw h1) fun D σ H ⟨w, s, M, hH, R, S, h⟩ => by
    subst hH
    show tE X.K W mv σ w.H fun x H1 => tE X.K W mo σ H1 fun o H2 => tE X.K W mi σ H2 fun i H3 => rSetD X.K o i x H3 fun H4 => D.nx σ H4
    refine tE_st R S h fun d M1 w1 v l1 R1 q P => ?_
    refine tE_st R1 (S.mono l1) P fun od M2 w2 ov l2 R2 q2 P => ?_
    refine tE_st R2 (S.mono (l1.trans l2)) P fun id M3 w3 iv l3 R3 q3 P => ?_
    split at P
    · rename_i M4 e4
      exact ⟨w3, M3, od, id, d, M4, rfl, R3, q2.mono l3, q3, q.mono (l2.trans l3), e4, fun w4 l4 R4 => P w4 σ l4 R4 (S.mono (((l1.trans l2).trans l3).trans l4))⟩
    · exact P.elim
end
/-! ### y = [.. for ..] where y is a plain local name -/
section
variable {X : Cx} {W : WX} {tg : Expr} {pos spos py : Pos}
def sSetC (m : MX (List D)) (cell : Bool) (i : Nat) : MS := sAsg (if cell then eCell m else eTree m) (gSet i)
theorem set_readL {te : TE} {K : PySem.W.Frag} {m : ME} {i : Nat} {D : Ends} {σ : L2.St} {H : Hp} (k : ∀ σ H Q, tE K W m σ H Q → te σ H Q) (h : tS K W (sAsg m (gSet i)) D σ H) : tAsg te (gName i) D σ H := by
  obtain ⟨w, s, M, hH, R, S, h⟩ := h
  subst hH
  show te σ w.H fun x H1 => D.nx (σ.set i (some x)) H1
  exact k _ _ _ (tE_st R S h fun d M' w' v l R' q P => P w' _ (Le.refl _) R' ((S.mono l).set q i))
theorem s_setComp (i : Nat) {y : Str} {elt iter : Expr} {ifs : List Expr} {scope : Scope} {own : List (Str × Nat)} {it : MI} {f : TgM} {ts : List Nat} {tt : MX Bool} {te : ME} (cell : Bool) (hc : X.calm = true) (hN : X.N.Nodup) (hi : PI X tg iter (tI X.K W it)) (ok : BlkOk X.N X.env.scope scope own)
    (hg : ∀ (s : Shared) (H : Hp) (C : Addr) (cl : List (Str × Addr)) (fp : List Addr), PG (X.blk s H scope (compEnvC scope cl C X.env) fp) tg (tG X.K ts f))
    (ht : ∀ (s : Shared) (H : Hp) (C : Addr) (cl : List (Str × Addr)) (fp : List Addr), PTs (X.blk s H scope (compEnvC scope cl C X.env) fp) ifs (tT X.K W0 tt))
    (he : ∀ (s : Shared) (H : Hp) (C : Addr) (cl : List (Str × Addr)) (fp : List Addr), PE (X.blk s H scope (compEnvC scope cl C X.env) fp) elt (tE X.K W0 te))
    (hy : X.N[i]? = some y := by rfl) (hyl : X.env.scope.names.lookup y = some .local := by rfl)
    (hsw : swapsWith (.ListComp elt [⟨tg, iter, ifs, 0⟩] scope pos) (some (.Name y py)) spos.line X.env = pure true := by exact sw_true rfl rfl rfl (by decide +kernel))
    (hts : ∀ i ∈ ts, i ∈ own.map (·.2) := by decide) (hs : ∀ x, foldedSetIterable iter X.env x = pure x := by intro _; rfl) :
    PS X (.Assign [.Name y py] (.ListComp elt [⟨tg, iter, ifs, 0⟩] scope pos) spos) (tS X.K W (sSetC (lComp it f tt te (own.map (·.2))) cell i)) :=
  PS.imp (ps_setLc hc hN hy hyl hsw hi ok hg ht he hs) fun D σ H h => by
    unfold sSetC at h
    cases cell with
    | true =>
      refine set_readL (te := tLc _ _ _ _ _) (fun σ H Q h => ?_) h
      exact comp_read hts (cell_read h)
    | false =>
      refine set_readL (te := tLc _ _ _ _ _) (fun σ H Q h => ?_) h
      exact comp_read hts (tree_read h)
end
end MM
namespace MM
open PySem PySem.Spec PyProof.Rows L2
/-! ### a def whose new cells go with it: what it hands back is a tree -/
mutual
/-- every cell that is named stands below n -/
def refsLt (n : Nat) : D → Bool
  | .obj i => decide (i < n)
  | .tup xs => refsLts n xs
  | .lst xs => refsLts n xs
  | .arg xs => refsLts n xs
  | .ktup xs => refsLts n xs
  | .utup xs => refsLts n xs
  | _ => true
def refsLts (n : Nat) : List D → Bool
  | [] => true
  | d :: ds => refsLt n d && refsLts n ds
end
mutual
def frz (M : Mem) (n : Nat) : D → Option D
  | .obj i => if i < n then some (.obj i) else match M[i]? with
    | some (.lst xs) => if refsLts n xs = true then some (.lst xs) else none
    | _ => none
  | .tup xs => (frzs M n xs).map .tup
  | .lst xs => (frzs M n xs).map .lst
  | .non => some .non
  | .bl b => some (.bl b)
  | .int i => some (.int i)
  | .str x => some (.str x)
  | .adr a => some (.adr a)
  | .ty t => some (.ty t)
  | .arg _ => none
  | .glo x => some (.glo x)
  | .ktup _ => none
  | .utup _ => none
def frzs (M : Mem) (n : Nat) : List D → Option (List D)
  | [] => some []
  | d :: ds => (frz M n d).bind fun e => (frzs M n ds).map fun es => e :: es
end
open Classical in
noncomputable def purely (M : Mem) : RE D → RE D
  | .ok d M' => if M'.take M.length = M then (match frz M' M.length d with
    | some e => .ok e M
    | none => .no) else .no
  | .ex c M' => if M'.take M.length = M then .ex c M else .no
  | .no => .no
noncomputable def fnP (m : Fn) : Fn := fun ds M => purely M (m ds M)
section
variable {K : PySem.W.Frag} {w w' : Wd} {M M' : Mem}
mutual
theorem Den.refs : ∀ {v : V} {d : D}, Den K w v d → refsLt w.n d = true
  | _, _, .non => rfl
  | _, _, .bl b => rfl
  | _, _, .int i => rfl
  | _, _, .str x h => rfl
  | _, _, .tup h t => by rw [refsLt]; exact Dens.refs t
  | _, _, .lst h t => by rw [refsLt]; exact Dens.refs t
  | _, _, .obj h => by rw [refsLt]; exact decide_eq_true h
  | _, _, .adr a => rfl
  | _, _, .ty n => rfl
  | _, _, .arg h t => by rw [refsLt]; exact Dens.refs t
  | _, _, .glo x => rfl
  | _, _, .ktup h t => by rw [refsLt]; exact Dens.refs t
  | _, _, .utup h t => by rw [refsLt]; exact Dens.refs t
theorem Dens.refs : ∀ {vs : List V} {ds : List D}, Dens K w vs ds → refsLts w.n ds = true
  | _, _, .nil => rfl
  | _, _, .cons h t => by rw [refsLts, Den.refs h, Dens.refs t]; rfl
end
/-- the cells from n on let go: what they hold is frozen -/
def Wd.drop (w : Wd) (n : Nat) : Wd := { w with F := fun a => w.F a ∨ ∃ i, n ≤ i ∧ i < w.n ∧ a = w.r i, n := n }
mutual
theorem Den.drop {n : Nat} : ∀ {v : V} {d : D}, Den K w v d → refsLt n d = true → Den K (w.drop n) v d
  | _, _, .non, _ => .non
  | _, _, .bl b, _ => .bl b
  | _, _, .int i, _ => .int i
  | _, _, .str x h, _ => .str x h
  | _, _, .tup h t, e => by
    rw [refsLt] at e
    exact .tup (h.elim (fun h => .inl ⟨.inl h.1, h.2⟩) .inr) (Dens.drop_ t e)
  | _, _, .lst h t, e => by
    rw [refsLt] at e
    exact .lst ⟨.inl h.1, h.2⟩ (Dens.drop_ t e)
  | _, .obj i, .obj h, e => by
    rw [refsLt] at e
    exact Den.obj (w := w.drop n) (of_decide_eq_true e)
  | _, _, .adr a, _ => .adr a
  | _, _, .ty n, _ => .ty n
  | _, _, .arg h t, e => by
    rw [refsLt] at e
    exact .arg (h.elim (fun h => .inl ⟨.inl h.1, h.2⟩) .inr) (Dens.drop_ t e)
  | _, _, .glo x, _ => .glo x
  | _, _, .ktup h t, e => by
    rw [refsLt] at e
    exact .ktup h (Dens.drop_ t e)
  | _, _, .utup h t, e => by
    rw [refsLt] at e
    exact .utup (h.elim (fun h => .inl ⟨.inl h.1, h.2⟩) .inr) (Dens.drop_ t e)
theorem Dens.drop_ {n : Nat} : ∀ {vs : List V} {ds : List D}, Dens K w vs ds → refsLts n ds = true → Dens K (w.drop n) vs ds
  | _, _, .nil, _ => .nil
  | _, _, .cons h t, e => by
    rw [refsLts, Bool.and_eq_true] at e
    exact .cons (Den.drop h e.1) (Dens.drop_ t e.2)
end
mutual
theorem Den.frz {n : Nat} (R : Rep K w M) (hn : n ≤ w.n) : ∀ {v : V} {d e : D}, Den K w v d → MM.frz M n d = some e → Den K (w.drop n) v e
  | _, _, _, .non, q => by cases q; exact .non
  | _, _, _, .bl b, q => by cases q; exact .bl b
  | _, _, _, .int i, q => by cases q; exact .int i
  | _, _, _, .str x h, q => by cases q; exact .str x h
  | _, _, _, .adr a, q => by cases q; exact .adr a
  | _, _, _, .ty t, q => by cases q; exact .ty t
  | _, .arg ds, _, .arg h t, q => by cases q
  | _, _, _, .glo x, q => by cases q; exact .glo x
  | _, .ktup ds, _, .ktup h t, q => by cases q
  | _, .utup ds, _, .utup h t, q => by cases q
  | _, .tup ds, _, .tup h t, q => by
    rw [MM.frz] at q
    obtain ⟨es, e1, rfl⟩ := Option.map_eq_some_iff.mp q
    exact .tup (h.elim (fun h => .inl ⟨.inl h.1, h.2⟩) .inr) (Dens.frz R hn t e1)
  | _, .lst ds, _, .lst h t, q => by
    rw [MM.frz] at q
    obtain ⟨es, e1, rfl⟩ := Option.map_eq_some_iff.mp q
    exact .lst ⟨.inl h.1, h.2⟩ (Dens.frz R hn t e1)
  | _, .obj i, _, .obj h, q => by
    rw [MM.frz] at q
    split at q
    · rename_i hi
      cases q
      exact Den.obj (w := w.drop n) hi
    · rename_i hi
      split at q
      · rename_i xs hm
        split at q
        · rename_i hr
          cases q
          obtain ⟨vs, h1, t⟩ := R.cells i _ hm
          exact .lst ⟨.inr ⟨i, by omega, h, rfl⟩, .inl h1⟩ (Dens.drop_ t hr)
        · cases q
      · cases q
theorem Dens.frz {n : Nat} (R : Rep K w M) (hn : n ≤ w.n) : ∀ {vs : List V} {ds es : List D}, Dens K w vs ds → frzs M n ds = some es → Dens K (w.drop n) vs es
  | _, _, _, .nil, q => by cases q; exact .nil
  | _, _, _, .cons h t, q => by
    rw [frzs] at q
    obtain ⟨e, e1, e2⟩ := Option.bind_eq_some_iff.mp q
    obtain ⟨es, e3, rfl⟩ := Option.map_eq_some_iff.mp e2
    exact .cons (Den.frz R hn h e1) (Dens.frz R hn t e3)
end
theorem le_drop (R : Rep K w M) (l : Le w w') (R' : Rep K w' M') (e : M'.take M.length = M) : Le w (w'.drop w.n) ∧ Rep K (w'.drop w.n) M := by
  refine ⟨⟨fun a h => ⟨.inl (l.f a h).1, (l.f a h).2⟩, l.z, l.zz, Nat.le_refl _, l.r⟩, ⟨R.n, fun a h => ?_, fun a h => R'.hZ a h, fun i hi h => ?_, fun i hi => R'.zr i (Nat.lt_of_lt_of_le hi l.n), fun a h z => ?_, fun i j hi hj => R'.inj i j (Nat.lt_of_lt_of_le hi l.n) (Nat.lt_of_lt_of_le hj l.n), fun i c h => ?_⟩⟩
  · rcases h with h | ⟨i, h1, h2, rfl⟩
    · exact R'.hF a h
    · have hi : i < M'.length := by rw [← R'.n]; exact h2
      exact (R'.cells i _ (List.getElem?_eq_getElem hi)).there
  · have hi' : i < w.n := hi
    rcases h with h | ⟨j, h1, h2, h3⟩
    · exact R'.fr i (Nat.lt_of_lt_of_le hi l.n) h
    · have := R'.inj i j (Nat.lt_of_lt_of_le hi l.n) h2 h3
      omega
  · rcases h with h | ⟨i, h1, h2, rfl⟩
    · exact R'.fz a h z
    · exact R'.zr i h2 z
  · have hi : i < M.length := (List.getElem?_eq_some_iff.mp h).1
    have h' : M'[i]? = some c := by
      rw [← e, List.getElem?_take_of_lt hi] at h
      exact h
    have q := R'.cells i c h'
    have q0 := R.cells i c h
    cases c with
    | lst ds =>
      obtain ⟨vs, q1, q2⟩ := q
      obtain ⟨vs0, _, q3⟩ := q0
      exact ⟨vs, q1, q2.drop_ q3.refs⟩
    | dct ds =>
      obtain ⟨vs, q1, qk, q2⟩ := q
      obtain ⟨vs0, _, _, q3⟩ := q0
      exact ⟨vs, q1, qk, q2.drop_ q3.refs⟩
    | ins C ds =>
      obtain ⟨dx, vs, q1, qk, q2⟩ := q
      obtain ⟨_, vs0, _, _, q3⟩ := q0
      exact ⟨dx, vs, q1, qk, q2.drop_ q3.refs⟩
    | dead => exact q
theorem PostF.pure {Q : VK} {E : XK} {r : RE D} (R : Rep K w M) (h : PostF K w Q E (purely M r)) : PostF K w Q E r := by
  cases r with
  | no => exact h
  | ex c M' =>
    intro w' l R'
    by_cases e : M'.take M.length = M
    · have h2 : ∀ w'' : Wd, Le w w'' → Rep K w'' M → E (exV K c) none w''.H := by
        have h := h
        rw [purely, if_pos e] at h
        exact h
      obtain ⟨l2, R2⟩ := le_drop R l R' e
      exact h2 (w'.drop w.n) l2 R2
    · rw [purely, if_neg e] at h
      exact h.elim
  | ok d M' =>
    intro w' v l R' q
    by_cases e : M'.take M.length = M
    · rw [purely, if_pos e] at h
      obtain ⟨l2, R2⟩ := le_drop R l R' e
      cases ef : MM.frz M' M.length d with
      | none => rw [ef] at h; exact h.elim
      | some e' =>
        rw [ef] at h
        have h2 : ∀ (w'' : Wd) (v : V), Le w w'' → Rep K w'' M → Den K w'' v e' → Q v w''.H := h
        rw [← R.n] at ef
        exact h2 (w'.drop w.n) v l2 R2 (Den.frz R' l.n q ef)
    · rw [purely, if_neg e] at h
      exact h.elim
end
theorem FnS.pure {P : Program} {w : World} {K : PySem.W.Frag} {mg : Str → Option Value} {base : Heap} {k : Nat} {f : Addr} {fd : FuncData} {ps : List Str} {m : Fn} (F : FnS P w K mg base k f fd ps m) : FnS P w K mg base k f fd ps (fnP m) :=
  F.imp fun vs H Q E ⟨c, ds, M, hH, R, t, hl, h⟩ => ⟨c, ds, M, hH, R, t, hl, PostF.pure R h⟩
theorem GFn.pure {P : Program} {w : World} {K : PySem.W.Frag} {mg : Str → Option Value} {base : Heap} {x : Str} {k np : Nat} {dd : List D} {m : Fn} (G : GFn P w K mg base x k np dd m) : GFn P w K mg base x k np dd (fnP m) := by
  obtain ⟨f, fd, ps, dvs, dus, a, b, c, d, e, g, F⟩ := G.ex
  exact ⟨f, fd, ps, dvs, dus, a, b, c, d, e, g, F.pure⟩
/-! ### -a -/
def negD : D → Option D
  | .int i => some (.int (-i))
  | _ => none
def eNeg (m : ME) : ME := fun s M => (m s M).bind fun d M' => oo (negD d) M'
section
variable {X : Cx} {W : WX} {pos : Pos} {a : Expr} {m : ME}
theorem s_neg (ha : PE X a (tE X.K W m)) : PE X (.UnaryOp .USub a pos) (tE X.K W (eNeg m)) :=
  PE.imp (pe_un un_neg ha) fun σ H Q ⟨w, s, M, hH, R, S, h⟩ => by
    subst hH
    show tE X.K W m σ w.H fun x H1 => ∃ i, x = .int i ∧ Q (.int (-i)) H1
    refine tE_bind R S h.toG fun d M' w' v l R' q P => ?_
    cases q with
    | int i => exact ⟨i, rfl, P w' (Le.refl _) R' _ (.int _)⟩
    | _ => exact P.elim
end

/-! ### dicts, written -/
def dPairs : List (ME × ME) → MX (List (Key × D))
  | [] => fun _ M => .ok [] M
  | (mk, mv) :: r => fun s M => (mk s M).bind fun k M1 => (mv s M1).bind fun v M2 => match keyD k with
    | some key => (dPairs r s M2).bind fun ps M3 => .ok ((key, v) :: ps) M3
    | none => .no
def mergeD (kvs more : List (Key × D)) : List (Key × D) := more.foldl (fun acc kv => setAt.putKD acc kv.1 kv.2) kvs
def eDict (ps : List (ME × ME)) : ME := fun s M => (dPairs ps s M).bind fun kvs M' => if kvs.length ≤ 15 then .ok (.obj M'.length) (M' ++ [.dct (mergeD [] kvs)]) else .no
section
variable {X : Cx} {W : WX} {pos : Pos}
def KvR (K : PySem.W.Frag) (w : Wd) (ps : List (Key × V)) (kvs : List (Key × D)) : Prop := ps.map (·.1) = kvs.map (·.1) ∧ Dens K w (ps.map (·.2)) (kvs.map (·.2))
theorem KvR.mono {K : PySem.W.Frag} {w w' : Wd} {ps : List (Key × V)} {kvs : List (Key × D)} (h : KvR K w ps kvs) (l : Le w w') : KvR K w' ps kvs := ⟨h.1, h.2.mono l⟩
theorem KvR.merge {K : PySem.W.Frag} {w : Wd} : ∀ {more : List (Key × V)} {rs : List (Key × D)} {ps : List (Key × V)} {kvs : List (Key × D)}, KvR K w more rs → KvR K w ps kvs → KvR K w (mergeK ps more) (mergeD kvs rs)
  | [], [], _, _, _, h => h
  | [], _ :: _, _, _, h, _ => by cases h.1
  | _ :: _, [], _, _, h, _ => by cases h.1
  | p :: more, q :: rs, ps, kvs, h, h2 => by
    obtain ⟨h1, t⟩ := h
    rw [List.map_cons, List.map_cons] at h1 t
    injection h1 with e1 e2
    cases t with
    | cons t1 t2 =>
      show KvR K w (mergeK (putK ps p.1 p.2) more) (mergeD (setAt.putKD kvs q.1 q.2) rs)
      rw [e1]
      exact KvR.merge ⟨e2, t2⟩ (putKD_V h2.1 h2.2 t1)
def tPM (K : PySem.W.Frag) (W : WX) (ms : List (ME × ME)) : List (TE × TE) := ms.map fun p => (tE K W p.1, tE K W p.2)
theorem pairs_read {K : PySem.W.Frag} {σ : L2.St} {s : Sl} : ∀ {ms : List (ME × ME)} {w : Wd} {M : Mem} {β : Type} {f : List (Key × D) → Mem → RE β} {P : β → Wd → Prop} {Q : List (V × V) → Hp → Prop} (R : Rep K w M) (S : SlotR K w σ s)
    (h : PostG K W w σ P ((dPairs ms s M).bind f)) (k : ∀ kvs M' w' (ps : List (Key × V)), Le w w' → Rep K w' M' → KvR K w' ps kvs → PostG K W w' σ P (f kvs M') → Q (ps.map fun kv => (kV kv.1, kv.2)) w'.H), tPairs (tPM K W ms) σ w.H Q
  | [], w, M, β, f, P, Q, R, S, h, k => k [] M w [] (Le.refl _) R ⟨rfl, .nil⟩ h
  | (mk, mv) :: ms, w, M, β, f, P, Q, R, S, h, k => by
    show tE K W mk σ w.H fun x H1 => tE K W mv σ H1 fun y H2 => tPairs (tPM K W ms) σ H2 fun ps H3 => Q ((x, y) :: ps) H3
    have h : PostG K W w σ P ((mk s M).bind fun k M1 => (mv s M1).bind fun v M2 => (match keyD k with | some key => (dPairs ms s M2).bind fun ps M3 => .ok ((key, v) :: ps) M3 | none => .no : RE (List (Key × D))).bind f) := by
      change PostG K W w σ P (RE.bind ((mk s M).bind _) f) at h
      cases e1 : mk s M with
      | no => rw [e1] at h; exact h
      | ex c M1 => rw [e1] at h; exact h
      | ok d M1 =>
        rw [e1] at h
        show PostG K W w σ P ((mv s M1).bind _)
        have h : PostG K W w σ P (RE.bind ((mv s M1).bind _) f) := h
        cases e2 : mv s M1 with
        | no => rw [e2] at h; exact h
        | ex c M1 => rw [e2] at h; exact h
        | ok d M1 => rw [e2] at h; exact h
    refine tE_bind R S h fun d M1 w1 v l1 R1 q P1 => ?_
    refine tE_bind R1 (S.mono l1) P1 fun d2 M2 w2 v2 l2 R2 q2 P2 => ?_
    cases ek : keyD d with
    | none => rw [ek] at P2; exact P2.elim
    | some key =>
      rw [ek] at P2
      have P2 : PostG K W w2 σ P ((dPairs ms s M2).bind fun ps M3 => f ((key, d2) :: ps) M3) := by
        have P2 : PostG K W w2 σ P (RE.bind ((dPairs ms s M2).bind fun ps M3 => .ok ((key, d2) :: ps) M3) f) := P2
        cases e3 : dPairs ms s M2 with
        | no => rw [e3] at P2; exact P2
        | ex c M3 => rw [e3] at P2; exact P2
        | ok ps M3 => rw [e3] at P2; exact P2
      refine pairs_read R2 (S.mono (l1.trans l2)) P2 fun kvs M3 w3 ps l3 R3 kv P3 => ?_
      have ev := keyD_V q ek
      subst ev
      exact k ((key, d2) :: kvs) M3 w3 ((key, v2) :: ps) ((l1.trans l2).trans l3) R3 ⟨by rw [List.map_cons, List.map_cons, kv.1], .cons (q2.mono l3) kv.2⟩ P3
theorem PostG.unprot {α : Type} {K : PySem.W.Frag} {b : Wd} {M : Mem} {p : Addr} {o : HO} {σ : L2.St} {P : α → Wd → Prop} {r : RE α} (O : Opn K b M p o) (h : PostG K W b σ P r) : PostG K W (b.pz p) σ (fun d w' => P d (w'.uz b.Z)) r := by
  cases r with
  | no => exact h
  | ok d M' => exact fun w' l R' => h (w'.uz b.Z) (O.back l R').2 (O.back l R').1.rep
  | ex c M' => exact fun w' l R' => h (w'.uz b.Z) (O.back l R').2 (O.back l R').1.rep
theorem s_pnil : PPs X pos [] [] (tPM X.K W []) := pps_nil
theorem s_pcons {k v : Expr} {ks : List (Option Expr)} {vs : List Expr} {mk mv : ME} {ms : List (ME × ME)} (hk : PE X k (tE X.K W mk)) (hv : PE X v (tE X.K W mv)) (hr : PPs X pos ks vs (tPM X.K W ms)) : PPs X pos (some k :: ks) (v :: vs) (tPM X.K W ((mk, mv) :: ms)) := pps_cons hk hv hr
theorem s_dict {keys : List (Option Expr)} {values : List Expr} {ms : List (ME × ME)} (h : PPs X pos keys values (tPM X.K W ms)) (hall : keys.all (·.isSome) = true := by rfl) (hl : keys.length = values.length := by rfl) (h0 : keys ≠ [] := by exact fun z => nomatch z)
    (h15 : keys.length ≤ 15 := by decide) : PE X (.Dict keys values pos) (tE X.K W (eDict ms)) :=
  PE.imp (pe_disp h hall hl h0 h15) fun σ H Q ⟨w, s, M, hH, R, S, h⟩ => by
    subst hH
    intro p hp
    have O : Opn X.K (w.junk p (.dK [])) M p (.dK []) := ⟨rep_junk R hp, fun z => R.hF p z hp, fun z => R.hZ p z hp, fun i hi => R.ne hp hi, upd_same⟩
    have lj : Le w (w.junk p (.dK [])) := le_junk R hp
    have lz : Lw w ((w.junk p (.dK [])).pz p) := lj.lw.trans ⟨fun a h => ⟨h, rfl⟩, Nat.le_refl _, fun _ _ => rfl⟩
    have hG := h.toG
    show tPairs (tPM X.K W ms) σ ((w.junk p (.dK [])).pz p).H _
    cases e : dPairs ms s M with
    | no => unfold eDict at hG; rw [e] at hG; exact hG.elim
    | ex c M' =>
      unfold eDict at hG; rw [e] at hG
      have h2 : PostG X.K W ((w.junk p (.dK [])).pz p) σ (fun (_ : Unit) _ => True) ((dPairs ms s M).bind fun _ _ => .no) := by
        rw [e]
        exact fun w' l R' => (O.back l R').elim fun O2 l2 => hG (w'.uz w.Z) (lj.trans l2) O2.rep
      exact pairs_read O.prot (S.mow lz) h2 fun kvs M' w' ps l R' kv P => P.elim
    | ok kvs M' =>
      unfold eDict at hG; rw [e] at hG
      have h2 : PostG X.K W ((w.junk p (.dK [])).pz p) σ (fun (x : List (Key × D) × Mem) _ => x = (kvs, M')) ((dPairs ms s M).bind fun k m => .ok (k, m) m) := by
        rw [e]
        exact fun w' l R' => rfl
      refine pairs_read O.prot (S.mow lz) h2 fun kvs2 M2 w' ps l R' kv P => ?_
      have ex := P w' (Le.refl _) R'
      cases ex
      obtain ⟨O2, l2⟩ := O.back l R'
      have hG : PostG X.K W w σ (fun d w' => ∀ v, Den X.K w' v d → Q v w'.H) (if kvs.length ≤ 15 then .ok (.obj M'.length) (M' ++ [.dct (mergeD [] kvs)]) else .no) := hG
      have el : ps.length = kvs.length := by have := congrArg List.length kv.1; simpa using this
      split at hG
      · rename_i hz
        refine ⟨O2.at_, ps, rfl, by rw [el]; exact hz, ?_⟩
        -- the dict becomes a cell
        let b0 : Wd := { w'.uz w.Z with H := fun a => if a = p then none else w'.H a }
        have l6 : Le (w'.uz w.Z) b0 := ⟨fun a h => ⟨h, if_neg fun e => O2.f (by rw [← e]; exact h)⟩, fun a h => if_neg fun e => O2.z (by rw [← e]; exact h), rfl, Nat.le_refl _, fun _ _ => rfl⟩
        have R6 : Rep X.K b0 M' := by
          refine ⟨O2.rep.n, fun a h => ?_, fun a h => ?_, O2.rep.fr, O2.rep.zr, O2.rep.fz, O2.rep.inj, fun i c h => ?_⟩
          · rw [(l6.f a h).2]; exact O2.rep.hF a h
          · rw [l6.z a h]; exact O2.rep.hZ a h
          · have hi : i < w'.n := by rw [R'.n]; exact (List.getElem?_eq_some_iff.mp h).1
            exact (O2.rep.cells i c h).mono l6 (if_neg (O2.r i hi))
        have h0 : b0.H p = none := if_pos rfl
        have kv2 : KvR X.K (w'.uz w.Z) ps kvs := ⟨kv.1, Dens.lift (w := w') (w' := w'.uz w.Z) rfl rfl rfl rfl kv.2⟩
        have lc := le_cell (o := .dK (mergeK [] ps)) R6 h0
        obtain ⟨k1, k2⟩ := ((kv2.mono l6).mono lc).merge (ps := []) (kvs := []) ⟨rfl, .nil⟩
        have R7 := rep_cell (c := .dct (mergeD [] kvs)) (o := .dK (mergeK [] ps)) R6 h0 ⟨mergeK [] ps, upd_same, k1, k2⟩
        have z : (b0.cell p (.dK (mergeK [] ps))).r M'.length = p := by rw [← R6.n]; exact if_pos rfl
        have z2 : M'.length < (b0.cell p (.dK (mergeK [] ps))).n := by show M'.length < b0.n + 1; rw [R6.n]; exact Nat.lt_succ_self _
        have z3 : Den X.K (b0.cell p (.dK (mergeK [] ps))) (.ref ((b0.cell p (.dK (mergeK [] ps))).r M'.length)) (.obj M'.length) := .obj z2
        rw [z] at z3
        have q := hG _ (((lj.trans l2).trans l6).trans lc) R7 _ z3
        have eH : (b0.cell p (.dK (mergeK [] ps))).H = upd w'.H p (.dK (mergeK [] ps)) := by
          funext a
          show upd b0.H p _ a = _
          by_cases e : a = p
          · subst e; rw [upd_same, upd_same]
          · rw [upd_ne e, upd_ne e]; exact if_neg e
        rw [← eH]
        exact q
      · exact hG.elim
def eDict0 : ME := fun _ M => .ok (.obj M.length) (M ++ [.dct []])
theorem s_dict0 : PE X (.Dict [] [] pos) (tE X.K W eDict0) :=
  PE.imp pe_dnewK fun σ H Q ⟨w, s, M, hH, R, S, h⟩ => by
    subst hH
    intro p hp
    have l2 := le_cell (o := .dK []) R hp
    have R2 := rep_cell (c := .dct []) (o := .dK []) R hp ⟨[], upd_same, rfl, .nil⟩
    have z : (w.cell p (.dK [])).r M.length = p := by rw [← R.n]; exact if_pos rfl
    have z2 : M.length < (w.cell p (.dK [])).n := by show M.length < w.n + 1; rw [R.n]; exact Nat.lt_succ_self _
    have z3 : Den X.K (w.cell p (.dK [])) (.ref ((w.cell p (.dK [])).r M.length)) (.obj M.length) := .obj z2
    rw [z] at z3
    exact h (w.cell p (.dK [])) (.ref p) l2 R2 z3
end
/-! ### lists of texts -/
def strsD : List D → Option (List Str)
  | [] => some []
  | .str x :: r => (strsD r).map (x :: ·)
  | _ :: _ => none
theorem strsD_V {K : PySem.W.Frag} {w : Wd} : ∀ {vs : List V} {ds : List D} {xs : List Str}, Dens K w vs ds → strsD ds = some xs → vs = xs.map V.str
  | _, [], _, .nil, e => by cases e; rfl
  | _, d :: r, xs, .cons h t, e => by
    cases d with
    | str x =>
      obtain ⟨ys, e1, rfl⟩ := Option.map_eq_some_iff.mp e
      cases h
      rw [strsD_V t e1]
      rfl
    | _ => cases e
end MM
namespace MM
open PySem PySem.Spec PyProof.Rows L2
/-! ### a, b = x, y -/
section
variable {X : Cx} {W : WX} {pos : Pos} {e a b o : Expr} {es : List Expr} {m ma mb mo : ME} {r : MX (List D)}
def sPar (r : MX (List D)) (i j : Nat) : MS := fun s M => (r s M).st s fun ds M' => match ds with | [d, e] => .nx ((s.set i (some d)).set j (some e)) M' | _ => .no
theorem s_par (i j : Nat) {x y : Str} {px py pt : Pos} {kt k2 pt2} (hN : X.N.Nodup) (ha : PA X [a, b] (tA X.K W r)) (hc : X.calm = true := by rfl) (hi : X.N[i]? = some x := by rfl) (hj : X.N[j]? = some y := by rfl) (hij : i ≠ j := by decide)
    (hx : X.env.scope.names.lookup x = some .local := by rfl) (hy : X.env.scope.names.lookup y = some .local := by rfl)
    (hw : swappedStores [.Tuple [.Name x px, .Name y py] kt pt] (.Tuple [a, b] k2 pt2) X.env = pure (some [x, y]) := by rfl)
    (hs : swapsWithSole [.Tuple [.Name x px, .Name y py] kt pt] (.Tuple [a, b] k2 pt2) pos.line X.env = pure false := by rfl) :
    PS X (.Assign [.Tuple [.Name x px, .Name y py] kt pt] (.Tuple [a, b] k2 pt2) pos) (tS X.K W (sPar r i j)) :=
  PS.imp (ps_par hc hN hi hj hij hx hy ha hw hs) fun D σ H ⟨w, s, M, hH, R, S, h⟩ => by
    subst hH
    show tA X.K W r σ w.H fun vs H1 => ∃ v u, vs = [v, u] ∧ D.nx ((σ.set i (some v)).set j (some u)) H1
    unfold sPar at h
    refine ⟨w, s, M, rfl, R, S, tG_st R S h fun ds M' w' l R' P vs q => ?_⟩
    split at P
    · rename_i d e
      obtain ⟨v, u, rfl, q1, q2⟩ := q.two_inv
      exact ⟨v, u, rfl, P w' _ (Le.refl _) R' (((S.mono l).set q1 i).set q2 j)⟩
    · exact P.elim
/-! ### text.index(part), found -/
def sindexD (M : Mem) (d : D) (ds : List D) : Option (D × Mem) := match d, ds with
  | .str a, [.str b] => match Builtin.Str.occurrences a b 0 a.length 1 with
    | i :: _ => some (.int (i : Nat), M)
    | [] => none
  | _, _ => none
theorem m_sindex : MtR X "str.index" (rMt X.K sindexD) := by
  intro pins s σ H x xs v us Q I rx rs ⟨w, M, d, ds, z, M', hH, R, hx, hxs, hf, kk⟩
  subst hH
  unfold sindexD at hf
  split at hf
  · rename_i a b
    split at hf
    · rename_i i rest e
      cases hf
      cases hx
      obtain ⟨u, rfl, q⟩ := hxs.one_inv
      cases q
      exact mt_sindex pins s σ _ _ _ v us Q I rx rs ⟨a, b, i, rest, rfl, rfl, e, kk w _ (Le.refl _) R (.int _)⟩
    · cases hf
  · cases hf
theorem s_sindex {name : Str} {apos cpos : Pos} (ho : PE X o (tE X.K W mo)) (ha : PA X [e] (tA X.K W r)) (hn : name = "index" := by rfl) (hbase : attributeBase o "index" X.env (eval o X.env) = eval o X.env := by rfl)
    (hfew : ((backTo cpos (starEach [e] X.env)).all (fun x => !x.1) && (backToKw cpos (keywordEach [] X.env)).all (fun x => x.1.isSome)
      && decide ([e].length + ([] : List Keyword).length + (if ([] : List Keyword).isEmpty then 0 else 1) < 30)) = true := by rfl)
    (hline : (apos.endLine == cpos.line) = true := by rfl) (hs : starEach [e] X.env = (false, eval e X.env) :: starEach [] X.env := by rfl) (hplain : (backTo cpos (starEach [] X.env)).any (·.1) = false := by rfl) :
    PE X (.Call (.Attribute o name apos) [e] [] cpos) (tE X.K W (eM "str" sindexD mo r)) := by
  subst hn
  exact s_meth PySem.F.plainAttrs_str PySem.F.slot_str_index PySem.F.type_str_index m_sindex ho ha hbase hfew hline hs hplain
/-! ### the order of data -/
def dLt (M : Mem) (a b : D) : Option Bool := match toPy M a, toPy M b with
  | some x, some y => if PySem.W.alike x y = true ∧ min x.depth y.depth ≤ 64 then (match x with | .none => none | _ => some (PySem.W.dataLt x y)) else none
  | _, _ => none
def ltX (M : Mem) (a b : D) : Option D := match ltB M a b with
  | some z => some z
  | none => (dLt M a b).map .bl
theorem dLt_inv {M : Mem} {a b : D} {c : Bool} (h : dLt M a b = some c) : ∃ x y, toPy M a = some x ∧ toPy M b = some y ∧ PySem.W.alike x y = true ∧ min x.depth y.depth ≤ 64 ∧ x ≠ .none ∧ c = PySem.W.dataLt x y := by
  unfold dLt at h
  split at h
  · rename_i x y e1 e2
    split at h
    · rename_i hc
      split at h
      · cases h
      · rename_i hn
        cases h
        exact ⟨x, y, e1, e2, hc.1, hc.2, fun z => hn z, rfl⟩
    · cases h
  · cases h
theorem units_room {k n : Nat} {A : Around} (hr : Room k A) (h : n ≤ 64) : A.units + n < cLine := by
  have := hr.units
  omega
theorem d_ltX {k : Nat} (hr : Room k X.A) : OpD X (compareOp .Lt) ltX := by
  intro pins s σ H x y v u Q I rx ry ⟨w, M, d, e, z, hH, R, hx, hy, hf, kk⟩
  unfold ltX at hf
  cases q : ltB M d e with
  | some z' =>
    rw [q] at hf
    cases hf
    exact d_lt pins s σ H x y v u Q I rx ry ⟨w, M, d, e, _, hH, R, hx, hy, q, kk⟩
  | none =>
    rw [q] at hf
    subst hH
    obtain ⟨c, hc, rfl⟩ := Option.map_eq_some_iff.mp hf
    obtain ⟨p1, p2, e1, e2, ha, hd, hn, rfl⟩ := dLt_inv hc
    obtain ⟨as, r1⟩ := Dp.reads I p1 x v (dp R hx e1).1 rx
    obtain ⟨bs, r2⟩ := Dp.reads I p2 y u (dp R hy e2).1 ry
    exact PySem.W.rcLt_alike p1 p2 X.A s v u as bs r1 r2 ha hn (units_room hr hd) X.prog X.w _ _ ⟨.bl _, w.H, I, rfl, kk w _ (Le.refl _) R (.bl _)⟩
def gtX (M : Mem) (a b : D) : Option D := match gtB M a b with
  | some z => some z
  | none => match toPy M a, toPy M b with
    | some x, some y => if PySem.W.alike x y = true ∧ min x.depth y.depth ≤ 64 then (match x with | .none => none | _ => some (.bl (PySem.W.dataLt y x))) else none
    | _, _ => none
theorem d_gtX {k : Nat} (hr : Room k X.A) : OpD X (compareOp .Gt) gtX := by
  intro pins s σ H x y v u Q I rx ry ⟨w, M, d, e, z, hH, R, hx, hy, hf, kk⟩
  unfold gtX at hf
  cases q : gtB M d e with
  | some z' =>
    rw [q] at hf
    cases hf
    exact d_gt pins s σ H x y v u Q I rx ry ⟨w, M, d, e, _, hH, R, hx, hy, q, kk⟩
  | none =>
    rw [q] at hf
    subst hH
    dsimp only at hf
    split at hf
    · rename_i p1 p2 e1 e2
      split at hf
      · rename_i hc
        split at hf
        · cases hf
        · rename_i hn
          cases hf
          obtain ⟨as, r1⟩ := Dp.reads I p1 x v (dp R hx e1).1 rx
          obtain ⟨bs, r2⟩ := Dp.reads I p2 y u (dp R hy e2).1 ry
          exact PySem.W.rcGt_alike p1 p2 X.A s v u as bs r1 r2 hc.1 (fun z => hn z) (units_room hr hc.2) X.prog X.w _ _ ⟨.bl _, w.H, I, rfl, kk w _ (Le.refl _) R (.bl _)⟩
      · cases hf
    · cases hf
end
end MM
namespace MM
open PySem PySem.Spec PyProof.Rows L2
/-! ### errors of one's own: raised, caught -/
structure OwnExc (K : PySem.W.Frag) (mg : Str → Option Value) (x : String) : Prop where
  q : PySem.W.excIn K (He.ga K (Str.ofString x)) He.veBase "ValueError.__new__" = true
  k : PySem.W.keepIn K (.ref (He.ga K (Str.ofString x))) = true
  s : PySem.W.subIn K (.ref (He.ga K (Str.ofString x))) (.type "BaseException") = some true
  t : PySem.W.typeIn K (.ref (He.ga K (Str.ofString x))) = some (.type "type")
  g : mg (Str.ofString x) = some (.ref (He.ga K (Str.ofString x)))
  nb : exB.contains x = false
theorem OwnExc.v {K : PySem.W.Frag} {mg : Str → Option Value} {x : String} (O : OwnExc K mg x) : exV K x = .ref (He.ga K (Str.ofString x)) := by
  unfold exV
  rw [O.nb]
  rfl
def sRaise (x : String) : MS := fun s M => .ex x s M
def unS (i : Nat) : RS → RS
  | .nx s M => .nx (s.set i none) M
  | .bk s M => .bk (s.set i none) M
  | .ct s M => .ct (s.set i none) M
  | .rt d M => .rt d M
  | .ex _ _ _ => .no
  | .no => .no
noncomputable def sTryAs (b : MS) (tb : List (String × Bool)) (i : Nat) (su : Addr → String → MS) : MS := fun s M => match b s M with
  | .ex c s' M' => match tb.lookup c with
    | some true => ifC (∀ a, unS i (su a c (s'.set i (some (.adr a))) M') = unS i (su 0 c (s'.set i (some (.adr 0))) M')) (unS i (su 0 c (s'.set i (some (.adr 0))) M')) .no
    | some false => .ex c s' M'
    | none => .no
  | r => r
section
variable {X : Cx} {W : WX} {pos : Pos} {e a b o : Expr} {es : List Expr} {m ma mb mo : ME} {r : MX (List D)}
theorem s_raise {x : String} {mt : Str} {j : Nat} {p p2 pos2 : Pos} (O : OwnExc X.K X.mg x) (tk : Takes X W) (hc : X.calm = true := by rfl) (hg : Gl X (Str.ofString x) := by rfl) (hdb : ((Str.ofString x) == ("__debug__" : Str)) = false := by decide) :
    PS X (.Raise (some (.Call (.Name (Str.ofString x) p) [.Constant (.str mt) j p2] [] pos2)) none pos) (tS X.K W (sRaise x)) :=
  PS.imp (ps_raise hc tk (pmk_own PySem.F.excBase_ValueError O.q O.g O.k (raises_own O.s O.t) hg hdb)) fun D σ H ⟨w, s, M, hH, R, S, h⟩ => by
    subst hH
    have z : W (exV X.K x) none σ w.H := h w σ (Le.refl _) R S
    rw [O.v] at z
    exact z
theorem SlotR.unset {K : PySem.W.Frag} {w : Wd} {σ : L2.St} {s : Sl} (h : SlotR K w σ s) (i : Nat) : SlotR K w (σ.set i none) (s.set i none) := by
  refine ⟨by simpa using h.len, fun j d e => ?_⟩
  by_cases hj : i = j
  · subst hj
    by_cases hl : i < s.length
    · rw [List.getElem?_set_self hl] at e
      cases e
    · rw [List.getElem?_eq_none (by simpa using hl)] at e
      cases e
  · rw [List.getElem?_set_ne hj] at e
    obtain ⟨v, h1, h2⟩ := h.get j d e
    exact ⟨v, by rw [List.getElem?_set_ne hj]; exact h1, h2⟩
theorem PostS.un {K : PySem.W.Frag} {Wo : WX} {w : Wd} {D : Ends} {i : Nat} {r : RS} (h : PostS K Wo w D (unS i r)) :
    PostS K W0 w { nx := fun σ' H' => D.nx (σ'.set i none) H', rt := D.rt, bk := fun σ' H' => D.bk (σ'.set i none) H', ct := fun σ' H' => D.ct (σ'.set i none) H' } r := by
  cases r with
  | nx s M => exact fun w' σ' l R S => h w' _ l R (S.unset i)
  | bk s M => exact fun w' σ' l R S => h w' _ l R (S.unset i)
  | ct s M => exact fun w' σ' l R S => h w' _ l R (S.unset i)
  | rt d M => exact fun w' v l R q => h w' v l R q
  | ex c s M => exact h.elim
  | no => exact h.elim
theorem look_mem {tb : List (String × Bool)} {c : String} {b : Bool} (h : tb.lookup c = some b) : (c, b) ∈ tb := by
  induction tb with
  | nil => cases h
  | cons p tb ih =>
    obtain ⟨k, v⟩ := p
    rw [List.lookup_cons] at h
    by_cases e : (c == k) = true
    · rw [e] at h
      cases h
      rw [eq_of_beq e]
      exact List.mem_cons_self
    · have e' : (c == k) = false := by simpa using e
      rw [e'] at h
      exact List.mem_cons_of_mem _ (ih h)
/-- try: .. except x as n: .. -/
theorem s_tryAs (i : Nat) {x : String} {n : Str} {body suite : List Stmt} {b₀ : Stmt} {np pos' : Pos} {mb : MS} {tb : List (String × Bool)} {su : Addr → String → MS} (hN : X.N.Nodup) (O : X.mg (Str.ofString x) = some (exV X.K x)) (tk : Takes X W)
    (hx : ∀ p ∈ tb, PySem.W.exmOne X.K (exV X.K p.1) (exV X.K x) = some p.2)
    (hb : ∀ (W' : WX) (pn : List (Addr × Obj)) (xe : Value → Shared → Prop), Takes (X.tr pn xe) W' → PassesOwn (model X.prog X.w) X.A X.env xe → PSs (X.tr pn xe) body (tS X.K W' mb))
    (hsu : ∀ (a : Addr) (oe : Obj) (c : String) (pn : List (Addr × Obj)), c ∈ tb.map (·.1) → Zc (exV X.K c) none oe → (∃ vs, oe.data = .fields vs) → PSs (X.suite a ((a, oe) :: pn)) (b₀ :: suite) (tS X.K W0 (su a c)))
    (hs : X.stack = X.env :: X.outer := by rfl) (hf : X.env.frame = some X.env.locals := by rfl) (hi : X.N[i]? = some n := by rfl) (hln : X.env.kindOf n = some .local := by rfl) (hg : Gl X (Str.ofString x) := by rfl) (hdb : ((Str.ofString x) == ("__debug__" : Str)) = false := by decide) :
    PS X (.Try body [.ExceptHandler (some (.Name (Str.ofString x) np)) (some n) (b₀ :: suite) pos'] [] [] pos) (tS X.K W (sTryAs mb tb i su)) := by
  have base := ps_try_as (X := X) (x := Str.ofString x) (n := n) (c := exV X.K x) (i := i) (body := body) (suite := suite) (b₀ := b₀) (np := np) (pos := pos) (pos' := pos') (tb := fun W' => tS X.K W' mb)
    (ts := fun a cls d D σ H => ∃ c, c ∈ tb.map (·.1) ∧ cls = exV X.K c ∧ d = none ∧ tS X.K W0 (su a c) D σ H) (Wout := W) hs hf hN hi hln ⟨hg, hdb, .inl O⟩ tk hb (fun a oe cls d pn hz hv => ⟨fun pins s σ H D I ⟨c, hc, e1, e2, h⟩ => by
      subst e1 e2
      exact (hsu a oe c pn hc hz hv).run pins s σ H D I h⟩)
  refine PS.imp base fun D σ H ⟨w, s, M, hH, R, S, h⟩ => ?_
  subst hH
  refine ⟨w, s, M, rfl, R, S, ?_⟩
  unfold sTryAs at h
  cases q : mb s M with
  | nx s' M' => rw [q] at h; exact h
  | rt d M' => rw [q] at h; exact h
  | bk s' M' => rw [q] at h; exact h
  | ct s' M' => rw [q] at h; exact h
  | no => rw [q] at h; exact h
  | ex c s' M' =>
    rw [q] at h
    dsimp only at h
    intro w' σ' l R' S'
    cases k : tb.lookup c with
    | none => rw [k] at h; exact h.elim
    | some v =>
      have hm := look_mem k
      refine ⟨v, hx _ hm, fun hv a ha => ?_, fun hv => ?_⟩
      · subst hv
        rw [k] at h
        dsimp only at h
        by_cases all : ∀ a, unS i (su a c (s'.set i (some (.adr a))) M') = unS i (su 0 c (s'.set i (some (.adr 0))) M')
        · rw [ifC_pos all, ← all a] at h
          exact ⟨c, List.mem_map.mpr ⟨_, hm, rfl⟩, rfl, rfl, w', s'.set i (some (.adr a)), M', rfl, R', S'.set (.adr a) i, PostS.un (PostS.le h l)⟩
        · rw [ifC_neg all] at h
          exact h.elim
      · subst hv
        rw [k] at h
        exact h w' σ' l R' S'
/-! isinstance of the caught error -/
def dCls : D → Option String
  | .glo c => if exB.contains c = true then none else some c
  | .ty c => if exB.contains c = true then some c else none
  | _ => none
def isED (a : Addr) (c0 : String) (kt : List ((String × String) × Bool)) (_ : Mem) : List D → Option D
  | [.adr b, k] => if b = a then (dCls k).bind fun c => (kt.lookup (c0, c)).map .bl else none
  | _ => none
theorem look_mem2 {tb : List ((String × String) × Bool)} {c : String × String} {b : Bool} (h : tb.lookup c = some b) : (c, b) ∈ tb := by
  induction tb with
  | nil => cases h
  | cons p tb ih =>
    obtain ⟨k, v⟩ := p
    rw [List.lookup_cons] at h
    by_cases e : (c == k) = true
    · rw [e] at h
      cases h
      rw [eq_of_beq e]
      exact List.mem_cons_self
    · have e' : (c == k) = false := by simpa using e
      rw [e'] at h
      exact List.mem_cons_of_mem _ (ih h)
theorem c_isE {a : Addr} {oe : Obj} {pn : List (Addr × Obj)} {c0 : String} {kt : List ((String × String) × Bool)} (hn : exB.contains c0 = false) (C : ExcC X.K (He.ga X.K (Str.ofString c0))) (hz : Zc (exV X.K c0) none oe) (hf : ∃ vs, oe.data = .fields vs)
    (hk : ∀ q ∈ kt, PySem.W.kitOne X.K (exV X.K q.1.1) (exV X.K q.1.2) = some q.2) : CallR (X.suite a ((a, oe) :: pn)) (.builtin "isinstance") (rB X.K (isED a c0 kt)) := by
  intro pins s σ H vs us Q I rv ⟨w, M, ds, z, hH, R, t, hq, kk⟩
  subst hH
  have ev : exV X.K c0 = .ref (He.ga X.K (Str.ofString c0)) := by unfold exV; rw [hn]; rfl
  rw [ev] at hz
  unfold isED at hq
  split at hq
  · rename_i b k
    split at hq
    · rename_i hb
      subst hb
      obtain ⟨c, e1, e2⟩ := Option.bind_eq_some_iff.mp hq
      obtain ⟨v, e3, rfl⟩ := Option.map_eq_some_iff.mp e2
      have h3 := hk _ (look_mem2 e3)
      rw [ev] at h3
      obtain ⟨x1, x2, rfl, q1, q2⟩ := t.two_inv
      cases q1
      refine call_isE C hz hf pins s σ _ _ us Q I rv ⟨x2, exV X.K c, v, rfl, fun u ru => ?_, h3, kk w _ (Le.refl _) R (.bl _)⟩
      unfold dCls at e1
      split at e1
      · rename_i c'
        split at e1
        · cases e1
        · rename_i hnb
          cases e1
          cases q2
          cases ru
          unfold exV
          rw [if_neg hnb]
      · rename_i c'
        split at e1
        · rename_i hnb
          cases e1
          cases q2
          cases ru
          unfold exV
          rw [if_pos hnb]
        · cases e1
      · cases e1
    · cases hq
  · cases hq
/-- an own class's name, a built-in error's name -/
theorem s_gname_c {x : String} (hm : X.mg (Str.ofString x) = some (.ref (He.ga X.K (Str.ofString x)))) (hg : Gl X (Str.ofString x) := by rfl) (hd : ((Str.ofString x) == ("__debug__" : Str)) = false := by decide) : PE X (.Name (Str.ofString x) pos) (tE X.K W (eC (.glo x))) :=
  s_const (pe_glob hg hm (v := .ref (He.ga X.K (Str.ofString x))) rfl hd) fun _ => .glo x
end
end MM
namespace MM
open PySem PySem.Spec PyProof.Rows L2
/-! ### enumerate of a list, of a tuple -/
theorem enum_made {v : Value} {o : Obj} {Hh : Heap → Prop} (B : Begins v o Hh) : Meets (Builtin.«enumerate.__new__» ⟨[.type "enumerate", v], []⟩) (fun _ R s => Hh s.heap ∧
    R (.ok (.ret (.ref (s.heap.push o).objs.size))) { s with heap := (s.heap.push o).push { cls := .type "enumerate", data := .fields #[.none, .bool false, .ref s.heap.objs.size, rawInt 0, .none, .none] } }) := by
  refine .of_wp fun pr ww A R s h => ?_
  obtain ⟨hp, gs, dr, tk, os⟩ := s
  obtain ⟨h1, h⟩ := h
  have hsub := sub_enumerate
  have start : ∀ {A' : Around} {E : Value → Shared → Prop} {Q : Value → Shared → Prop}, Q (.ref hp.objs.size) ⟨hp.push o, gs, dr, tk, os⟩ → wpAny (model pr ww) A' (pyIter v) Q E ⟨hp, gs, dr, tk, os⟩ := fun q => B.iter pr ww _ _ ⟨hp, gs, dr, tk, os⟩ _ h1 q
  wp_walk using start
  refine wpAny_stack_any fun st => wpAny_pure ?_
  split
  · rename_i c _ _ _ _ _
    cases (c == Value.type "enumerate") <;> (wp_walk using start; exact ⟨_, rfl, h⟩)
  · wp_walk using start; exact ⟨_, rfl, h⟩
theorem call_enum1 {pr : Program} {ww : World} {A : Around} {E : Value → Shared → Prop} {s : Shared} {v : Value} {o : Obj} {Hh : Heap → Prop} {Q : Value → Shared → Prop} (B : Begins v o Hh) (h1 : Hh s.heap)
    (h : ∀ h', IsEnum h' (s.heap.objs.size + 1) s.heap.objs.size 0 .none → h'.get? s.heap.objs.size = some o → (∀ b ob, s.heap.get? b = some ob → h'.get? b = some ob) → Q (.ref (s.heap.objs.size + 1)) { s with heap := h' }) :
    wpAny (model pr ww) A (call (.type "enumerate") [v]) Q E s := by
  refine callType_new PySem.F.called_enumerate (by decide) (PySem.F.typeCall_enumerate_1 _) (PySem.F.newCall_enumerate_1 _) (fun ob => PySem.F.args_object_init_2 ob _) PySem.F.entry_enumerate_new (enum_made B) ⟨h1, ?_⟩
  have hz : (s.heap.push o).objs.size = s.heap.objs.size + 1 := Heap.size_push ..
  show _ ∧ _
  rw [hz]
  have he : IsEnum ((s.heap.push o).push { cls := .type "enumerate", data := .fields #[.none, .bool false, .ref s.heap.objs.size, rawInt 0, .none, .none] }) (s.heap.objs.size + 1) s.heap.objs.size 0 .none := by
    have z := Heap.get?_push_size (s.heap.push o) (o := { cls := .type "enumerate", data := .fields #[.none, .bool false, .ref s.heap.objs.size, rawInt 0, .none, .none] }) rfl
    rw [hz] at z; exact z
  exact ⟨⟨_, he, rfl⟩, h _ he (Heap.get?_push_of_some _ (Heap.get?_push_size _ B.free)) fun b ob x => Heap.get?_push_of_some _ (Heap.get?_push_of_some _ x)⟩
/-- the tuple at a, each item in a new pair -/
def Iet (K : PySem.W.Frag) (a : Addr) : It where
  go := fun i H => ∃ (xs : List V) (x : V), SqT K H a xs ∧ xs[i]? = some x
  yld := fun i H v H' => ∃ T x, v = .ref T ∧ H T = none ∧ H' = upd H T (.tup [.int (i : Nat), x]) ∧ ∀ xs, SqT K H a xs → xs[i]? = some x
  stop := fun i H => ∃ xs : List V, SqT K H a xs ∧ xs.length ≤ i
theorem turn_enumT {P : Program} {w : World} {K : PySem.W.Frag} {elts : List Expr} {kk : Nat} {tpos : Pos} (a e it : Addr) : Turn P w K (.Tuple elts kk tpos) (Iet K a) [e, it] e (fun i h => (∃ old, IsEnum h e it ((i : Nat) : Int) old) ∧ h.IsTupleIter it a i ∧ e ≠ it ∧ e ≠ a ∧ a ≠ it) where
  mem := by simp
  obj := fun i h st b hb => by
    obtain ⟨⟨old, he⟩, ⟨o, ho, hc, hd⟩, _⟩ := st
    have eb : b = e ∨ b = it := by simpa using hb
    rcases eb with z | z
    · subst z; exact ⟨_, he, fun v q => nomatch q⟩
    · subst z; exact ⟨o, ho, fun v q => by rw [hd] at q; cases q⟩
  keep := fun i h h' st k => ⟨st.1.elim fun old he => ⟨old, k e (by simp) _ he⟩, st.2.1.at fun o q => k it (by simp) o q, st.2.2⟩
  item := by
    intro X hP hw hK hc i pins s σ H E I hf st hg
    subst hP hw hK
    obtain ⟨⟨old, he⟩, hit, hne, hea, hai⟩ := st
    obtain ⟨xs, x, hq, hx⟩ := hg
    obtain ⟨its, rv, p, hz⟩ := I.tuple hq
    have pt : s.heap.IsTuple a its.toArray := p
    obtain ⟨u, hu, ru⟩ := rv.get hx
    have hu' : its.toArray[i]? = some u := by simpa using hu
    have hsi : i < its.toArray.size := (Array.getElem?_eq_some_iff.mp hu').1
    have sel : e < s.heap.objs.size := Heap.lt_size he
    have sil : it < s.heap.objs.size := by obtain ⟨_, q, _⟩ := hit; exact Heap.lt_size q
    have D := Draws.tuple (prog := X.prog) (w := X.w) (A := X.A.in1) (by simpa using I.ok.hd hc) it a hai its.toArray
    refine wpAny_pyNext_enum_itemC D he ⟨hit, pt⟩ hsi hne (by simp [hne, hea]) fun y h' tk hy ho hst' hT hsz hk => ?_
    have hit' := hst'.1
    have ey : y = u := by rw [hu'] at hy; exact (Option.some.inj hy).symm
    subst ey
    refine ⟨_, rfl, wpAny_letOwnedTupleGo_enum (s := { s with heap := h', toks := tk + 1 }) ho fun h'' he' sb => ?_⟩
    have hT2 : h''.get? s.heap.objs.size = some { cls := .type "tuple", data := .seq #[.int i tk, y] } := (sb.2 _ (Nat.ne_of_gt sel)).trans hT
    have nw : ObjOk X.prog X.w (upd H s.heap.objs.size (.tup [.int (i : Nat), x])) h'' s.heap.objs.size (.tup [.int (i : Nat), x]) := ⟨by show 2 ≤ sizeLine; decide, [.int i tk, y], .cons ⟨_, rfl⟩ (.cons ru .nil), ⟨_, hT2, rfl, _, rfl⟩⟩
    have I1 : Inv X pins σ (upd H s.heap.objs.size (.tup [.int (i : Nat), x])) { s with heap := h'', toks := tk + 1 } := I.turnedNew (ch := [e, it]) (fun b ob hb q => (sb.2 b (fun z => hb (by simp [z]))).trans (hk b ob (fun z => hb (by simp [z])) (fun z => hb (by simp [z])) q)) hf (Nat.le_refl _) nw
    refine ⟨.ref s.heap.objs.size, _, I1, rfl, ⟨_, x, rfl, I.hok.fresh (Nat.le_refl _), rfl, fun ys hy => by rw [I.tuple_inj hy hq]; exact hx⟩, ⟨⟨y, ?_⟩, hit'.at fun o q => (sb.2 it (Ne.symm hne)).trans q, hne, hea, hai⟩, fun b hb => ?_⟩
    · have e1 : ((i + 1 : Nat) : Int) = (i : Int) + 1 := by omega
      rw [e1]; exact he'
    · have lt : b < s.heap.objs.size := by
        have eb : b = e ∨ b = it := by simpa using hb
        rcases eb with z | z
        · subst z; exact sel
        · subst z; exact sil
      rw [upd_ne (Nat.ne_of_lt lt)]
      exact (hf b hb).1
  done := by
    intro X hP hw hK hc i pins s σ H E I hf st hg
    subst hP hw hK
    obtain ⟨⟨old, he⟩, hit, hne, hea, hai⟩ := st
    obtain ⟨xs, hq, hx⟩ := hg
    obtain ⟨its, rv, p, hz⟩ := I.tuple hq
    have pt : s.heap.IsTuple a its.toArray := p
    obtain ⟨f0, f1, f2, f3, f4, f5⟩ := hf it (by simp)
    have hl := rv.length
    have fin : ∀ (h' : Heap), Heap.ExtBut it s.heap h' → ((none : Option Value) = none ∧ Inv X pins σ H { s with heap := h' }) := fun h' eb => ⟨rfl, I.turned (t' := s.toks) (fun b o hb q => eb b o hb q) f0 f1 f3 f4 f5⟩
    have hT : s.TypeIs (.ref e) "enumerate" := ⟨_, he, rfl⟩
    unfold pyNext
    refine wpAny_bind (wpAny_attempt (wpAny_callSpecial?_slot (name := Str.ofString "__next__") hT PySem.F.slot_enumerate_next (wpAny_call_entry PySem.F.slot_enumerate_next hT PySem.F.entry_enumerate_next ?_ (PySem.F.args_enumerate_next_1 _))))
    show wpAny _ _ (field (.ref e) 2 >>= _) _ _ _
    refine wpAny_bind (wpAny_field he rfl (x := .ref it) rfl ?_)
    have hh : X.A.in1.handled = none := by simpa using I.ok.hd hc
    refine wpAny_bind (wpAny_nextOf_tuple_end (by first | exact hh | simpa using hh) hit pt (by simp; omega) fun h' x he' hx' => ?_)
    obtain ⟨o, ho, hc'⟩ := hx'
    exact wpAny_bind (wpAny_isInstance (T := "StopIteration") (b := true) ⟨o, ho, hc'⟩ isSubtype_stop (wpAny_pure (fin _ he')))
  self := fun A i s Q E st h => st.1.elim fun _ he => wpAny_pyIter_enum he h
theorem pi_enumT {X : Cx} {e : Expr} {ta : TA} {p pos tpos : Pos} {elts : List Expr} {kk : Nat} (hg : Gl X "enumerate") (hm : X.mg "enumerate" = none) (ha : PA X [e] ta) (hs : starEach [e] X.env = [(false, eval e X.env)] := by rfl) :
    PI X (.Tuple elts kk tpos) (.Call (.Name "enumerate" p) [e] [] pos) (fun σ H R => ta σ H fun vs H1 => ∃ a, vs = [.ref a] ∧ ((∃ xs, SqL X.K H1 a xs) ∧ R (Ite X.K a) H1 ∨ (∃ xs, SqT X.K H1 a xs) ∧ R (Iet X.K a) H1)) := by
  refine ⟨fun pins s σ H R I h => ?_⟩
  refine Call_ (ld_blt I hg hm boot_enumerate (PyProof.Rows.callWith_type1 (thn (ha.run pos pins s σ H _ I h) fun us s1 ⟨vs, H1, I1, r1, q1⟩ => ?_) hs rfl))
  obtain ⟨a, ex, q⟩ := q1
  subst ex
  cases r1 with
  | cons r rr =>
    cases rr
    cases r
    have cells : ∀ b ∈ [s1.heap.objs.size + 1, s1.heap.objs.size], s1.heap.objs.size ≤ b := fun b hb => by
      have eb : b = s1.heap.objs.size + 1 ∨ b = s1.heap.objs.size := by simpa using hb
      omega
    rcases q with ⟨⟨xs, hq⟩, q⟩ | ⟨⟨xs, hq⟩, q⟩
    · obtain ⟨its, rv, p', hz⟩ := I1.list hq
      refine call_enum1 (begins_list a its.toArray) p'.isList fun h' he hit hk => wpAny_pyIter_enum he ?_
      have I2 : Inv X pins σ H1 { s1 with heap := h' } := I1.kept (t' := s1.toks) hk
      exact ⟨s1.heap.objs.size + 1, [s1.heap.objs.size + 1, s1.heap.objs.size], _, _, H1, rfl, I2, turn_enum a (s1.heap.objs.size + 1) s1.heap.objs.size, ⟨⟨.none, he⟩, ⟨_, hit, rfl, rfl⟩, Nat.succ_ne_self _⟩, fun b hb => I1.fpOk (cells b hb) (I1.hok.fresh (cells b hb)), q⟩
    · obtain ⟨its, rv, p', hz⟩ := I1.tuple hq
      have pt : s1.heap.IsTuple a its.toArray := p'
      have al : a < s1.heap.objs.size := by obtain ⟨_, q, _⟩ := pt; exact Heap.lt_size q
      refine call_enum1 (begins_tuple a its.toArray) pt fun h' he hit hk => wpAny_pyIter_enum he ?_
      have I2 : Inv X pins σ H1 { s1 with heap := h' } := I1.kept (t' := s1.toks) hk
      exact ⟨s1.heap.objs.size + 1, [s1.heap.objs.size + 1, s1.heap.objs.size], _, _, H1, rfl, I2, turn_enumT a (s1.heap.objs.size + 1) s1.heap.objs.size, ⟨⟨.none, he⟩, ⟨_, hit, rfl, rfl⟩, Nat.succ_ne_self _, Nat.ne_of_gt (Nat.lt_succ_of_lt al), Nat.ne_of_lt al⟩, fun b hb => I1.fpOk (cells b hb) (I1.hok.fresh (cells b hb)), q⟩
def enumD (ds : List D) : List D := ds.mapIdx fun i d => .utup [.int (i : Int), d]
theorem enumD_get {ds : List D} {i : Nat} {x : D} (h : (enumD ds)[i]? = some x) : ∃ d, ds[i]? = some d ∧ x = .utup [.int (i : Int), d] := by
  unfold enumD at h
  rw [List.getElem?_mapIdx] at h
  obtain ⟨d, h1, h2⟩ := Option.map_eq_some_iff.mp h
  exact ⟨d, h1, h2.symm⟩
theorem enumD_len (ds : List D) : (enumD ds).length = ds.length := by unfold enumD; simp
def iEnumM (r : MX (List D)) : MI := fun s M => (r s M).bind fun es M' => match es with
  | [.tup ds] => .ok (enumD ds, none) M'
  | [.lst ds] => .ok (enumD ds, none) M'
  | [.arg ds] => .ok (enumD ds, none) M'
  | _ => .no
theorem pair_new {K : PySem.W.Frag} {w : Wd} {M : Mem} {T : Addr} {i : Nat} {x : V} {d : D} (R : Rep K w M) (hT : w.H T = none) (q : Den K w x d) :
    ∃ w', w'.H = upd w.H T (.tup [.int (i : Nat), x]) ∧ Le w w' ∧ Rep K w' M ∧ Den K w' (.ref T) (.utup [.int (i : Int), d]) :=
  ⟨w.fz T (.tup [.int (i : Nat), x]), rfl, le_fz R hT, rep_fz R hT, .utup (.inl ⟨.inl rfl, upd_same⟩) (.cons (.int _) (.cons (q.mono (le_fz R hT)) .nil))⟩
theorem walks_enumT {K : PySem.W.Frag} {w : Wd} {a : Addr} {vs : List V} {ds : List D} (f : FrT K w a vs) (t : Dens K w vs ds) : Walks K (Iet K a) w (enumD ds) none := fun w2 M l R _ i => by
  have f2 := (f.mow l).sq
  have t2 := t.mow l
  refine ⟨fun z ez => ?_, fun h _ => ⟨vs, f2, by rw [t.length]; rw [enumD_len] at h; exact h⟩⟩
  obtain ⟨d, ed, rfl⟩ := enumD_get ez
  obtain ⟨v, ev, dv⟩ := t2.get ed
  refine ⟨⟨vs, v, f2, ev⟩, fun x H' y => ?_⟩
  obtain ⟨T, x', rfl, hT, rfl, hx⟩ := y
  have e := hx vs f2
  rw [ev] at e
  cases e
  exact pair_new R hT dv
theorem walks_enumL {K : PySem.W.Frag} {w : Wd} {a : Addr} {vs : List V} {ds : List D} (f : FrA K w a vs) (t : Dens K w vs ds) : Walks K (Ite K a) w (enumD ds) none := fun w2 M l R _ i => by
  have f2 : SqL K w2.H a vs := (f.mow l).sq
  have t2 := t.mow l
  refine ⟨fun z ez => ?_, fun h _ => ⟨vs, f2, by rw [t.length]; rw [enumD_len] at h; exact h⟩⟩
  obtain ⟨d, ed, rfl⟩ := enumD_get ez
  obtain ⟨v, ev, dv⟩ := t2.get ed
  refine ⟨⟨vs, v, f2, ev⟩, fun x H' y => ?_⟩
  obtain ⟨T, x', rfl, hT, rfl, hx⟩ := y
  have e := hx vs f2
  rw [ev] at e
  cases e
  exact pair_new R hT dv
theorem s_enum {X : Cx} {W : WX} {e : Expr} {r : MX (List D)} {p pos tpos : Pos} {elts : List Expr} {kk : Nat} (ha : PA X [e] (tA X.K W r)) (hm : X.mg "enumerate" = none) (hg : Gl X "enumerate" := by rfl) (hs : starEach [e] X.env = [(false, eval e X.env)] := by rfl) :
    PI X (.Tuple elts kk tpos) (.Call (.Name "enumerate" p) [e] [] pos) (tI X.K W (iEnumM r)) :=
  PI.imp (pi_enumT hg hm ha hs) fun σ H R ⟨w, s, M, hH, Rp, S, h⟩ => by
    subst hH
    unfold iEnumM at h
    refine tA_bind Rp S h fun es M' w' vs l R' q P => ?_
    split at P
    · obtain ⟨v, rfl, q1⟩ := q.one_inv
      cases q1 with
      | tup f t => exact ⟨_, rfl, .inr ⟨⟨_, f.sq⟩, P w' (Le.refl _) R' _ (walks_enumT f t)⟩⟩
    · obtain ⟨v, rfl, q1⟩ := q.one_inv
      cases q1 with
      | lst f t => exact ⟨_, rfl, .inl ⟨⟨_, f.sq⟩, P w' (Le.refl _) R' _ (walks_enumL (.inl f) t)⟩⟩
    · obtain ⟨v, rfl, q1⟩ := q.one_inv
      cases q1 with
      | arg f t => exact ⟨_, rfl, .inl ⟨⟨_, f.sq⟩, P w' (Le.refl _) R' _ (walks_enumL f t)⟩⟩
    · exact P.elim
end MM
namespace MM
open PySem PySem.Spec PyProof.Rows L2
/-! ### len(set(texts)) -/
def stepS (acc : List Str) (x : Str) : List Str := if acc.any (· == x) then acc else acc ++ [x]
/-- each text once, as first met -/
def onceS (xs : List Str) : List Str := xs.foldl stepS []
theorem stepS_any (acc : List Str) (v m : Str) : (stepS acc v).any (· == m) = (acc.any (· == m) || decide (m = v)) := by
  unfold stepS
  by_cases h : acc.any (· == v) = true
  · rw [if_pos h]
    by_cases e : m = v
    · rw [e, h]; simp
    · simp [e]
  · rw [if_neg h, List.any_append]
    by_cases e : m = v
    · simp [e]
    · have hb : (v == m) = false := beq_eq_false_iff_ne.mpr fun z => e z.symm
      simp [hb, e]
theorem stepS_len (acc : List Str) (v : Str) : (stepS acc v).length = if acc.any (· == v) then acc.length else acc.length + 1 := by
  unfold stepS
  split <;> simp
theorem onceS_succ {xs : List Str} {i : Nat} (h : i < xs.length) : onceS (xs.take (i + 1)) = stepS (onceS (xs.take i)) (xs.getD i Str.empty) := by
  unfold onceS
  rw [List.take_succ, List.foldl_append]
  have e : xs[i]? = some (xs.getD i Str.empty) := by rw [List.getD_eq_getElem?_getD, List.getElem?_eq_getElem h]; rfl
  rw [e]
  rfl
theorem onceS_le (xs : List Str) : (onceS xs).length ≤ xs.length := by
  unfold onceS
  have key : ∀ (ys acc : List Str), (ys.foldl stepS acc).length ≤ acc.length + ys.length := by
    intro ys
    induction ys with
    | nil => intro acc; simp
    | cons y ys ih =>
      intro acc
      have h1 := ih (stepS acc y)
      have h2 := stepS_len acc y
      rw [List.foldl_cons, List.length_cons]
      split at h2 <;> omega
  simpa using key xs []
section
variable {pr : Program} {ww : World} {A : Around}
theorem loop_texts {R : Result → Shared → Prop} {I : Addr} {fp wr : List Addr} {G : Array GenState → Array GenState → Prop} {n : Nat} {P : Nat → Value → Prop} {St : Nat → Shared → Prop} (Wk : WalksS pr ww A.in1 I fp wr G n P St) (Sa : Addr) (hSf : Sa ∉ fp) (xs : List Str) (hsz : xs.length = n)
    (hval : ∀ i v, P i v → ∃ t, v = .str (xs.getD i Str.empty) t) (hroom : n + 1 < scanBound) : ∀ (m i : Nat) (s : Shared), n - i = m → i ≤ n → St i s → s.heap.SetOf (PySem.strKind pr ww) Sa (fun q => (onceS (xs.take i)).any (· == q)) (onceS (xs.take i)).length →
      (∀ s', Moved (Sa :: wr) G s s' → s'.heap.SetOf (PySem.strKind pr ww) Sa (fun q => (onceS (xs.take n)).any (· == q)) (onceS (xs.take n)).length → R (.ok (.ret .none)) s') → codeAny (model pr ww) A (.builtin "set.update.loop" ⟨[.ref Sa, .ref I], []⟩) R s := by
  have hSw : Sa ∉ wr := fun z => hSf (Wk.sub _ z)
  have wider : ∀ b ∈ wr, b ∈ Sa :: wr := fun b hb => List.mem_cons_of_mem _ hb
  have there : ∀ {s s' : Shared} {T : Str → Bool} {c : Nat}, Moved wr G s s' → s.heap.SetOf (PySem.strKind pr ww) Sa T c → s'.heap.SetOf (PySem.strKind pr ww) Sa T c := fun {s s' T c} hm ⟨o, es, ep, t, ho, rest⟩ => ⟨o, es, ep, t, hm.heap Sa _ hSw ho, rest⟩
  intro m
  induction m with
  | zero =>
    intro i s hm hi hst hS hR
    obtain rfl : i = n := by omega
    refine codeAny_builtin PyProof.Rows.F.entry_set_update_loop ?_
    rw [Around.under_plainId PyProof.Rows.F.plain_set_update_loop _]
    show wpAny _ A.in1 (pyNext (.ref I) >>= _) _ _ s
    exact wpAny_bind (Wk.done s _ _ hst fun s' mv => wpAny_pure (hR s' (mv.mono wider) (there mv hS)))
  | succ m ih =>
    intro i s hm hi hst hS hR
    have hlt : i < n := by omega
    refine codeAny_builtin PyProof.Rows.F.entry_set_update_loop ?_
    rw [Around.under_plainId PyProof.Rows.F.plain_set_update_loop _]
    show wpAny _ A.in1 (pyNext (.ref I) >>= _) _ _ s
    refine wpAny_bind (Wk.item i s _ _ hlt hst fun v s' hP hst' mv => ?_)
    obtain ⟨t, rfl⟩ := hval i v hP
    have hS' := there mv hS
    show wpAny _ A.in1 (holding [Value.str (xs.getD i Str.empty) t] (setAdd Sa (.str (xs.getD i Str.empty) t)) >>= _) _ _ s'
    refine wpAny_bind (wpAny_holding ?_)
    unfold setAdd
    refine wpAny_holding (wpAny_bind ((PySem.strKind pr ww).pyHash (k := xs.getD i Str.empty) (strKind_is _ _ _ _) ?_))
    have le := onceS_le (xs.take i)
    have tl : (xs.take i).length ≤ i := by rw [List.length_take]; exact Nat.min_le_left _ _
    refine wpAny_setAddHashed_of (knd := PySem.strKind pr ww) (s := { s' with toks := s'.toks + 1 }) (strKind_is _ _ _ _) rfl hS' (by omega) fun h' sb hS2 => ?_
    have nxt : h'.SetOf (PySem.strKind pr ww) Sa (fun q => (onceS (xs.take (i + 1))).any (· == q)) (onceS (xs.take (i + 1))).length :=
      PyProof.Rows.SetOf_congr hS2 (fun q => by rw [onceS_succ (by omega), stepS_any]) (by rw [onceS_succ (by omega), stepS_len])
    refine wpAny_pure ⟨plainId_quiet PyProof.Rows.F.plain_set_update_loop _, ih (i + 1) _ (by omega) hlt (Wk.frame _ s' _ _ hst' (Nat.le_succ _) fun b hb o e => ?_) nxt fun s'' mv2 hS3 => ?_⟩
    · rw [sb.2 b fun z : b = Sa => hSf (z ▸ hb)]; exact e
    · refine hR s'' (Moved.trans Wk.gtrans ((mv.mono wider).then_heap (Nat.le_succ _) fun b o hb e => ?_) mv2) hS3
      rw [sb.2 b fun z : b = Sa => hb (z ▸ List.mem_cons_self)]; exact e
set_option maxHeartbeats 3200000 in
theorem call_set_texts {E : Value → Shared → Prop} {s : Shared} {l : Addr} {items : Array Value} {xs : List Str} {Q : Value → Shared → Prop} (hh : A.handled = none) (hl : s.heap.IsList l items) (hi : PyProof.Rows.StrsAre items.toList xs) (hroom : xs.length + 1 < scanBound)
    (fin : ∀ (h' : Heap) (tk : Nat), h'.SetOf (PySem.strKind pr ww) s.heap.objs.size (fun q => (onceS xs).any (· == q)) (onceS xs).length → (∀ b o, b < s.heap.objs.size → s.heap.get? b = some o → h'.get? b = some o) → Q (.ref s.heap.objs.size) { s with heap := h', toks := tk }) :
    wpAny (model pr ww) A (call (.type "set") [.ref l]) Q E s := by
  obtain ⟨c, tl, hmro⟩ := PySem.F.called_set.mro
  have hmade := PySem.F.called_set.made; have hsub := PySem.F.called_set.sub
  have hxl : xs.take items.size = xs := List.take_of_length_le (by rw [← StrsAre.len_eq hi, Array.length_toList]; exact Nat.le_refl _)
  refine wpAny_call (codeAny_of_tree ?_)
  show wpAny _ _ (callAny (.type "set") _) _ _ _
  refine wpAny_pure ⟨Code.quiet_builtin _ (by decide +kernel), codeAny_builtin PySem.F.entry_type_call ?_⟩
  rw [Around.under_plain (weight_type_call_type "set" [.ref l] []) rfl]
  have h1 := PySem.F.called_set.notType; have h2 := PySem.F.called_set.canCreate; have hct := PySem.F.typeCall_set_1 (.ref l)
  repeat (any_goals (first | assumption | wp_step))
  let bare (led : Bool) : Obj := { cls := .type "set", dict := none, data := .set #[] 0 (.fresh 0 0 led) }
  refine codeAny_mono (code_set_new_1 (.ref l) (E := E) (Q₁ := fun ob s₁ => ∃ led : Bool, ob = .ref s.heap.objs.size ∧ s₁ = { s with heap := s.heap.push (bare led) }) fun led => ⟨led, rfl, rfl⟩) fun r s₁ hr => ?_
  cases r with
  | error e => exact hr
  | ok fl =>
    cases fl with
    | ret ob =>
      obtain ⟨led, rfl, rfl⟩ := hr
      have hS : (s.heap.push (bare led)).get? s.heap.objs.size = some (bare led) := Heap.get?_push_size _ rfl
      have hT : Shared.TypeIs { s with heap := s.heap.push (bare led) } (.ref s.heap.objs.size) "set" := ⟨_, hS, rfl⟩
      have hli := PySem.F.called_set.init.lookup; have hbi := PySem.F.called_set.init.bind (.ref s.heap.objs.size)
      repeat (any_goals (first | assumption | wp_step))
      refine codeAny_mono (codeAny_call_builtin (R := wants (fun r s₂ => r = .none ∧ ∃ h' tk, s₂ = { s with heap := h', toks := tk } ∧ h'.SetOf (PySem.strKind pr ww) s.heap.objs.size (fun q => (onceS xs).any (· == q)) (onceS xs).length ∧
          (∀ b o, b < s.heap.objs.size → s.heap.get? b = some o → h'.get? b = some o)) E) PySem.F.called_set.init.plain PySem.F.entry_set_init (check_set_init_1 hT ?_)) fun r₂ s₂ hr₂ => ?_
      · obtain ⟨ol, hol, hcl, nl, hdl⟩ := hl
        obtain ⟨ocls, odict, odata, oslots⟩ := ol
        simp only at hcl hdl
        subst hcl hdl
        have hol' : (s.heap.push (bare led)).get? l = some { cls := .type "list", dict := odict, data := .seq items nl, slots := oslots } := Heap.get?_push_of_some _ hol
        have hsls := PySem.F.sub_list_set; have hslf := PySem.F.sub_list_frozenset
        have hne : (Value.type "list" == Value.type "dict") = false := by decide
        have hl1 : (s.heap.push (bare led)).IsList l items := ⟨_, hol', rfl, nl, rfl⟩
        unfold Builtin.«set.__init__» noKeywords Builtin.Frozenset.updateFrom
        generalize hPI : pyIter = PI
        wp_walk
        subst hPI
        refine wpAny_pyIter_list hl1 (wpAny_bind (wpAny_runValue ?_))
        have hlS : l < s.heap.objs.size := Heap.lt_size hol
        have hh3 : A.in1.in1.in1.handled = none := by simp [hh]
        have hz : (s.heap.push (bare led)).objs.size = s.heap.objs.size + 1 := Heap.size_push ..
        have hneI : l ≠ (s.heap.push (bare led)).objs.size := by rw [hz]; exact Nat.ne_of_lt (Nat.lt_succ_of_lt hlS)
        have hSf : s.heap.objs.size ∉ [(s.heap.push (bare led)).objs.size, l] := by
          rw [hz]; simp only [List.mem_cons, List.not_mem_nil, or_false, not_or]
          exact ⟨Nat.ne_of_lt (Nat.lt_succ_self _), Nat.ne_of_gt hlS⟩
        have hsz : xs.length = items.size := by rw [← StrsAre.len_eq hi, Array.length_toList]
        refine loop_texts ((Walks.list hh3 _ l hneI items).toS) s.heap.objs.size hSf xs hsz (fun i v hv => SS.strs_at hi i v (by rw [Array.getElem?_toList]; exact hv)) (by omega) (items.size - 0) 0 _ (by omega) (Nat.zero_le _) ⟨⟨_, Heap.get?_push_size _ rfl, rfl, rfl⟩, (hl1.push _)⟩ ?_ ?_
        · have hget : ((s.heap.push (bare led)).push { cls := .type "list_iterator", data := .fields #[.ref l, .int 0 0] }).get? s.heap.objs.size = some (bare led) := Heap.get?_push_of_some _ hS
          exact PyProof.Rows.SetOf_congr ((PyProof.Rows.setObjOf_fresh (knd := PySem.strKind pr ww) led).setOf hget (by unfold scanBound; omega)) (fun _ => rfl) rfl
        · intro s' hm hS'
          rw [hxl] at hS'
          obtain ⟨h', g', d', tk', os'⟩ := s'
          obtain rfl : g' = s.gens := hm.gens
          obtain rfl : d' = s.drawn := hm.drawn
          obtain rfl : os' = s.os := hm.os
          show wpAny _ _ _ _ _ _
          refine wpAny_pure ?_
          show wpAny _ _ (ret Value.none) _ _ _
          refine wpAny_pure ⟨rfl, h', tk', rfl, hS', fun b o hb e => ?_⟩
          exact hm.heap b o (by rw [hz]; simp only [List.mem_cons, List.not_mem_nil, or_false, not_or]; exact ⟨Nat.ne_of_lt hb, Nat.ne_of_lt (Nat.lt_succ_of_lt hb)⟩) (Heap.get?_push_of_some _ (Heap.get?_push_of_some _ e))
      · cases r₂ with
        | error e => exact hr₂
        | ok fl₂ =>
          cases fl₂ with
          | ret r =>
            obtain ⟨rfl, h', tk, rfl, hS', hk'⟩ := hr₂
            repeat (any_goals (first | assumption | wp_step))
            exact fin _ _ hS' hk'
          | _ => exact hr₂.elim
    | _ => exact hr.elim
end
/-- len(set(xs)), xs a list of texts -/
def eLenSet (m : ME) : ME := fun s M => (m s M).bind fun d M' => match (listD M' d).bind strsD with
  | some xs => if xs.length ≤ 1000 then .ok (.int (onceS xs).length) M' else .no
  | none => .no
theorem pe_lenTexts {X : Cx} {a : Expr} {ta : TE} {p p2 q pos : Pos} (hc : X.calm = true) (hg : Gl X "len") (hm : X.mg "len" = none) (hg2 : Gl X "set") (hm2 : X.mg "set" = none) (ha : PE X a ta) (na : starEach [a] X.env = (false, eval a X.env) :: starEach [] X.env := by rfl) :
    PE X (.Call (.Name "len" p) [.Call (.Name "set" p2) [a] [] q] [] pos) (fun σ H Q => ta σ H fun x H1 => ∃ l, ∃ xs : List Str, x = .ref l ∧ SqL X.K H1 l (xs.map V.str) ∧ xs.length ≤ 1000 ∧ Q (.int (onceS xs).length) H1) := by
  refine ⟨fun pins s σ H Q I h => ?_⟩
  refine Call_ (ld_blt I hg hm boot_len (PyProof.Rows.callWith_builtin1 (PyProof.Rows.args_cons ?_ rfl) rfl rfl))
  refine Call_ (ld_blt I hg2 hm2 boot_set (PyProof.Rows.callWith_type1 (PyProof.Rows.args_cons (thn (ha.run pins s σ H _ I h) fun v s1 ⟨x, H1, I1, r1, q1⟩ => PyProof.Rows.args_nil ?_) na) na rfl))
  obtain ⟨l, xs, rfl, hq, h1, q1⟩ := q1
  cases r1
  obtain ⟨its, r, pl, hz⟩ := I1.list hq
  refine call_set_texts (I1.ok.hd hc) pl.isList (by simpa using L2.strsAre_of r) (by unfold scanBound; omega) fun h' tk hS hk => PyProof.Rows.args_nil ?_
  obtain ⟨o, es, ep, t, ho, hex, hd, _, _, _, hf, hn⟩ := hS
  have I2 : Inv X pins σ H1 { s1 with heap := h', toks := tk } := I1.kept fun b o e => hk b o (Heap.lt_size e) e
  have le := onceS_le xs
  exact call_len_set ho hex hd hf (by rw [hn] <;> omega) ⟨.int (onceS xs).length, H1, I2.tok _, ⟨_, by rw [hn]⟩, q1⟩
theorem s_lenSet {X : Cx} {W : WX} {a : Expr} {m : ME} {p p2 q pos : Pos} (ha : PE X a (tE X.K W m)) (hm : X.mg "len" = none) (hm2 : X.mg "set" = none) (hc : X.calm = true := by rfl) (hg : Gl X "len" := by rfl) (hg2 : Gl X "set" := by rfl) (na : starEach [a] X.env = (false, eval a X.env) :: starEach [] X.env := by rfl) :
    PE X (.Call (.Name "len" p) [.Call (.Name "set" p2) [a] [] q] [] pos) (tE X.K W (eLenSet m)) :=
  PE.imp (pe_lenTexts hc hg hm hg2 hm2 ha na) fun σ H Q ⟨w, s, M, hH, R, S, h⟩ => by
    subst hH
    unfold eLenSet at h
    refine tE_bind R S h.toG fun d M' w' v l R' q P => ?_
    split at P
    · rename_i xs e
      obtain ⟨ds, e1, e2⟩ := Option.bind_eq_some_iff.mp e
      split at P
      · rename_i hl
        obtain ⟨a, vs, rfl, h1, t⟩ := listD_rd R' q e1
        have ev := strsD_V t e2
        subst ev
        exact ⟨a, xs, rfl, .inl h1, hl, P w' (Le.refl _) R' _ (.int _)⟩
      · exact P.elim
    · exact P.elim
end MM
namespace MM
open PySem PySem.Spec PyProof.Rows L2
/-! ### list(x) -/
section
variable {X : Cx} {W : WX} {pos : Pos} {e : Expr} {r : MX (List D)}
def lListOf (r : MX (List D)) : MX (List D) := fun s M => (r s M).bind fun es M' => match es with
  | [.arg ds] => .ok ds M'
  | [d] => match seqD M' d with | some ds => .ok ds M' | none => .no
  | _ => .no
theorem s_listOf {p : Pos} (ha : PA X [e] (tA X.K W r)) (hm : X.mg "list" = none) (hg : Gl X "list" := by rfl) (hn : ("list" : Str) ≠ "__name__" := by decide) (hdb : (("list" : Str) == ("__debug__" : Str)) = false := by decide)
    (he : starEach [e] X.env = (false, eval e X.env) :: starEach [] X.env := by rfl) (hpl : (backTo pos (starEach [] X.env)).any (·.1) = false := by rfl) : PE X (.Call (.Name "list" p) [e] [] pos) (tL X.K W (lListOf r)) :=
  PE.imp (pe_callTy call_list_of hg hm boot_list ha hn hdb he hpl) fun σ H Q ⟨w, s, M, hH, R, S, h⟩ => by
    subst hH
    unfold lListOf at h
    refine tA_bind R S h fun es M' w' vs l R' q P => ?_
    split at P
    · obtain ⟨v, rfl, q1⟩ := q.one_inv
      cases q1 with
      | arg f t => exact ⟨_, _, rfl, .inl f.sq, fun p hp => P w' (Le.refl _) R' p _ hp t⟩
    · obtain ⟨v, rfl, q1⟩ := q.one_inv
      split at P
      · rename_i ds e1
        obtain ⟨a, vs, rfl, h1, t⟩ := seqD_rd R' q1 e1
        exact ⟨a, vs, rfl, h1, fun p hp => P w' (Le.refl _) R' p _ hp t⟩
      · exact P.elim
    · exact P.elim
end
/-! ### facts of the head, one's own -/
def tupN (K : PySem.W.Frag) (x : Str) (vs : List He.Dv) : Bool := match K.lookup (He.ga K x) with
  | some ⟨.type c, none, .seq its _, _⟩ => decide (c = "tuple") && (decide (its.size ≤ sizeLine) && He.relAll (vs.map (He.Dv.v K)) its.toList)
  | _ => false
inductive Ck where
  | fa (f : He.Fa) | tup (x : Str) (vs : List He.Dv) | ktup (x : Str) (vs : List He.Dv) | exm (a b : String) (v : Bool) | kit (a b : String) (v : Bool) | xc (a : String)
def Ck.ok (K : PySem.W.Frag) : Ck → Bool
  | .fa f => f.ok K
  | .tup x vs => tupN K x vs
  | .ktup x vs => tupN K x vs
  | .exm a b v => decide (PySem.W.exmOne K (exV K a) (exV K b) = some v)
  | .kit a b v => decide (PySem.W.kitOne K (exV K a) (exV K b) = some v)
  | .xc a => let C := He.ga K (Str.ofString a)
    He.eqO (PySem.W.findIn K (.ref C) "__getattribute__") (some (some (.builtin "BaseException.__getattribute__"))) && (He.eqO (PySem.W.findIn K (.ref C) "__getattr__") (some none) && (decide (PySem.W.subIn K (.ref C) (.type "BaseException") = some true) && (PySem.W.hasDictIn K C &&
      (He.eqO (PySem.W.findIn K (.ref C) "__class__") (some (some (.builtin "object.__class__"))) && (He.eqO (PySem.W.specialIn K (.builtin "object.__class__") "__get__") (some (some (.builtin "getset_descriptor.__get__"))) && (decide (PySem.W.takesIn K (.builtin "object.__class__") = some true) &&
      decide (PySem.W.mroIn K C (.type "object") = some true)))))))
theorem Ck.xc_ok {K : PySem.W.Frag} {a : String} (h : (Ck.xc a).ok K = true) : ExcC K (He.ga K (Str.ofString a)) := by
  obtain ⟨h1, h⟩ := He.ba h
  obtain ⟨h2, h⟩ := He.ba h
  obtain ⟨h3, h⟩ := He.ba h
  obtain ⟨h4, h⟩ := He.ba h
  obtain ⟨h5, h⟩ := He.ba h
  obtain ⟨h6, h⟩ := He.ba h
  obtain ⟨h7, h8⟩ := He.ba h
  exact ⟨He.eqO_ok h1, He.eqO_ok h2, of_decide_eq_true h3, h4, He.eqO_ok h5, He.eqO_ok h6, of_decide_eq_true h7, of_decide_eq_true h8⟩
theorem Ck.exm_ok {K : PySem.W.Frag} {a b : String} {v : Bool} (h : (Ck.exm a b v).ok K = true) : PySem.W.exmOne K (exV K a) (exV K b) = some v := of_decide_eq_true h
theorem Ck.kit_ok {K : PySem.W.Frag} {a b : String} {v : Bool} (h : (Ck.kit a b v).ok K = true) : PySem.W.kitOne K (exV K a) (exV K b) = some v := of_decide_eq_true h
def obsC (cs : List Ck) (fn : List He.DefD) (K : PySem.W.Frag) : He.AlD := ((cs.all fun c => c.ok K) && fn.all fun d => d.ok K, fn.map fun d => He.fnW K d.at_)
def SaysC (cs : List Ck) (fn : List He.DefD) (K : PySem.W.Frag) : Prop := obsC cs fn K = He.valD fn
def obsCG (n : Nat) (cs : List Ck) (fn : List He.DefD) (g : Addr → Option Obj) : He.AlD := obsC cs fn (He.frG g (He.asD g n))
def hookC (n : Nat) (cs : List Ck) (fn : List He.DefD) : PySem.W.Hook where
  α := He.AlD
  obs := fun s => obsCG n cs fn s.heap.get?
  val := fun _ => He.valD fn
  says := fun _ h => ∃ K : PySem.W.Frag, K.In h ∧ SaysC cs fn K
  of := fun _ _ e => ⟨_, He.frG_in, e⟩
  keeps := fun _ _ _ z k => z.elim fun K q => ⟨K, PySem.W.Frag.In.keeps q.1 k, q.2⟩
theorem obsCG_eq {n : Nat} {cs : List Ck} {fn : List He.DefD} {g : Addr → Option Obj} {s : Shared} (h : ∀ a, g a = s.heap.get? a) : obsCG n cs fn g = (hookC n cs fn).obs s := by
  obtain rfl : g = s.heap.get? := funext h
  rfl
theorem SaysC.ck {cs : List Ck} {fn : List He.DefD} {K : PySem.W.Frag} (c : SaysC cs fn K) (i : Nat) {f : Ck} (h : cs[i]? = some f := by rfl) : f.ok K = true :=
  List.all_eq_true.mp (He.ba (show ((cs.all fun f => f.ok K) && fn.all fun d => d.ok K) = true from congrArg (fun z : He.AlD => z.1) c)).1 f (List.mem_of_getElem? h)
theorem SaysC.def_ {cs : List Ck} {fn : List He.DefD} {K : PySem.W.Frag} (c : SaysC cs fn K) (i : Nat) {d : He.DefD} (h : fn[i]? = some d := by rfl) : ∃ fd, FunD K d.name d.qual d.params d.body d.scope (d.dvs K) (d.kws K) (He.fAd K d.at_) fd := by
  have c2 := (He.ba (show ((cs.all fun f => f.ok K) && fn.all fun d => d.ok K) = true from congrArg (fun z : He.AlD => z.1) c)).2
  have e : (fn.map fun d => He.fnW K d.at_)[i]? = (fn.map He.DefD.val)[i]? := congrArg (fun z : List He.FnW => z[i]?) (congrArg (fun z : He.AlD => z.2) c)
  rw [List.getElem?_map, List.getElem?_map, h] at e
  exact He.DefD.funD (Option.some.inj e) (List.all_eq_true.mp c2 d (List.mem_of_getElem? h))
theorem tupN_ok {K : PySem.W.Frag} {x : Str} {vs : List He.Dv} (h : tupN K x vs = true) : FrK K (He.ga K x) (vs.map (He.Dv.v K)) := by
  unfold tupN at h
  split at h
  · rename_i c its n sl q
    obtain ⟨h1, h2⟩ := He.ba h
    obtain ⟨h3, h4⟩ := He.ba h2
    exact ⟨_, its, n, q, congrArg Value.type (of_decide_eq_true h1), rfl, rfl, of_decide_eq_true h3, He.relAll_ok h4⟩
  · cases h
theorem con_tup {K : PySem.W.Frag} {mg : Str → Option Value} {x : Str} {vs : List He.Dv} {ds : List D} (hg : mg x = some (.ref (He.ga K x))) (h : (Ck.tup x vs).ok K = true) (hd : ∀ w, Dens K w (vs.map (He.Dv.v K)) ds) : Con K mg x (.tup ds) := ⟨_, .ref (He.ga K x), hg, rfl, fun w => .tup (.inr (tupN_ok h)) (hd w)⟩
theorem con_ktup {K : PySem.W.Frag} {mg : Str → Option Value} {x : Str} {vs : List He.Dv} {ds : List D} (hg : mg x = some (.ref (He.ga K x))) (h : (Ck.ktup x vs).ok K = true) (hd : ∀ w, Dens K w (vs.map (He.Dv.v K)) ds) : Con K mg x (.ktup ds) := ⟨_, .ref (He.ga K x), hg, rfl, fun w => .ktup (tupN_ok h) (hd w)⟩
theorem own_exc {K : PySem.W.Frag} {mg : Str → Option Value} {x : String} (hg : mg (Str.ofString x) = some (.ref (He.ga K (Str.ofString x)))) (h : (He.Fa.exc (Str.ofString x)).ok K = true) (nb : exB.contains x = false) : OwnExc K mg x :=
  let z := He.exc_ok h
  ⟨z.1, z.2.1, z.2.2.1, z.2.2.2, hg, nb⟩
theorem SaysC.mem {cs : List Ck} {fn : List He.DefD} {K : PySem.W.Frag} (c : SaysC cs fn K) {f : Ck} (h : f ∈ cs) : f.ok K = true :=
  List.all_eq_true.mp (He.ba (show ((cs.all fun f => f.ok K) && fn.all fun d => d.ok K) = true from congrArg (fun z : He.AlD => z.1) c)).1 f h
theorem OwnExc.m {K : PySem.W.Frag} {mg : Str → Option Value} {x : String} (O : OwnExc K mg x) : mg (Str.ofString x) = some (exV K x) := by rw [O.v]; exact O.g
/-- errors of one's own that isinstance may be asked of, and the answers -/
structure Kin (K : PySem.W.Frag) (ns : List String) (kt : List ((String × String) × Bool)) : Prop where
  nb : ∀ c ∈ ns, exB.contains c = false
  xc : ∀ c ∈ ns, ExcC K (He.ga K (Str.ofString c))
  kt : ∀ q ∈ kt, PySem.W.kitOne K (exV K q.1.1) (exV K q.1.2) = some q.2
/-! ### a try, worked out -/
section
variable {b : MS} {tb : List (String × Bool)} {i : Nat} {su : Addr → String → MS} {s s' : Sl} {M M' : Mem} {c : String} {R : RS} {d : D}
theorem try_ex (h : b s M = .ex c s' M') (hl : tb.lookup c = some true) (hs : ∀ a, unS i (su a c (s'.set i (some (.adr a))) M') = R) : sTryAs b tb i su s M = R := by
  unfold sTryAs
  rw [h]
  dsimp only
  rw [hl]
  dsimp only
  rw [ifC_pos fun a => (hs a).trans (hs 0).symm, hs 0]
theorem try_nx (h : b s M = .nx s' M') : sTryAs b tb i su s M = .nx s' M' := by
  unfold sTryAs
  rw [h]
theorem try_rt (h : b s M = .rt d M') : sTryAs b tb i su s M = .rt d M' := by
  unfold sTryAs
  rw [h]
theorem fn_ex {np n : Nat} {b : MS} {ds : List D} (hl : ds.length = np) (h : b (ds.map some ++ List.replicate (n - np) none) M = .ex c s' M') : fn np n b ds M = .ex c M' := by
  unfold fn; rw [if_pos hl, h]
theorem seq_ex {x y : MS} (h : x s M = .ex c s' M') : sSeq x y s M = .ex c s' M' := by
  unfold sSeq; rw [h]
end
@[simp] theorem v_sRaise {x : String} {s : Sl} {M : Mem} : sRaise x s M = .ex x s M := rfl
@[simp] theorem v_lListOf {r : MX (List D)} {s : Sl} {M : Mem} : lListOf r s M = (r s M).bind fun es M' => match es with
  | [.arg ds] => .ok ds M'
  | [d] => match seqD M' d with | some ds => .ok ds M' | none => .no
  | _ => .no := rfl
end MM
namespace MM
open PySem PySem.Spec PyProof.Rows L2
/-! ### zip of two tuples, of two lists -/
def zipD (xs ys : List D) : List D := List.zipWith (fun x y => .utup [x, y]) xs ys
theorem zipD_get {xs ys : List D} {i : Nat} {z : D} (h : (zipD xs ys)[i]? = some z) : ∃ x y, xs[i]? = some x ∧ ys[i]? = some y ∧ z = .utup [x, y] := by
  unfold zipD at h
  rw [List.getElem?_zipWith] at h
  cases e1 : xs[i]? with
  | none => rw [e1] at h; cases h
  | some x =>
    cases e2 : ys[i]? with
    | none => rw [e1, e2] at h; cases h
    | some y => rw [e1, e2] at h; exact ⟨x, y, rfl, rfl, (Option.some.inj h).symm⟩
def iZipM (r : MX (List D)) : MI := fun s M => (r s M).bind fun es M' => match es with
  | [.tup xs, .tup ys] => .ok (zipD xs ys, none) M'
  | [.lst xs, .lst ys] => .ok (zipD xs ys, none) M'
  | _ => .no
theorem pair_new2 {K : PySem.W.Frag} {w : Wd} {M : Mem} {T : Addr} {x y : V} {d e : D} (R : Rep K w M) (hT : w.H T = none) (q : Den K w x d) (q2 : Den K w y e) :
    ∃ w', w'.H = upd w.H T (.tup [x, y]) ∧ Le w w' ∧ Rep K w' M ∧ Den K w' (.ref T) (.utup [d, e]) :=
  ⟨w.fz T (.tup [x, y]), rfl, le_fz R hT, rep_fz R hT, .utup (.inl ⟨.inl rfl, upd_same⟩) (.cons (q.mono (le_fz R hT)) (.cons (q2.mono (le_fz R hT)) .nil))⟩
theorem zip_stop {xs ys : List D} {i : Nat} (h : (zipD xs ys).length ≤ i) : xs.length ≤ i ∨ ys.length ≤ i := by
  unfold zipD at h
  rw [List.length_zipWith] at h
  omega
theorem walks_zipT {K : PySem.W.Frag} {w : Wd} {a b : Addr} {vs us : List V} {ds es : List D} (f : FrT K w a vs) (g : FrT K w b us) (t : Dens K w vs ds) (t2 : Dens K w us es) : Walks K (RZ.ItzT K a b) w (zipD ds es) none := fun w2 M l R _ i => by
  have f2 := (f.mow l).sq
  have g2 := (g.mow l).sq
  refine ⟨fun z ez => ?_, fun h _ => ⟨vs, us, f2, g2, by rw [t.length, t2.length]; exact zip_stop h⟩⟩
  obtain ⟨d, e, e1, e2, rfl⟩ := zipD_get ez
  obtain ⟨v, ev, dv⟩ := (t.mow l).get e1
  obtain ⟨u, eu, du⟩ := (t2.mow l).get e2
  refine ⟨⟨vs, us, v, u, f2, g2, ev, eu⟩, fun x H' y => ?_⟩
  obtain ⟨T, x1, y1, rfl, hT, rfl, h1, h2⟩ := y
  have k1 := h1 vs f2
  have k2 := h2 us g2
  rw [ev] at k1
  rw [eu] at k2
  cases k1; cases k2
  exact pair_new2 R hT dv du
theorem walks_zipL {K : PySem.W.Frag} {w : Wd} {a b : Addr} {vs us : List V} {ds es : List D} (f : FrL w a vs) (g : FrL w b us) (t : Dens K w vs ds) (t2 : Dens K w us es) : Walks K (Itz K a b) w (zipD ds es) none := fun w2 M l R _ i => by
  have f2 : SqL K w2.H a vs := (f.mow l).sq
  have g2 : SqL K w2.H b us := (g.mow l).sq
  refine ⟨fun z ez => ?_, fun h _ => ⟨vs, us, f2, g2, by rw [t.length, t2.length]; exact zip_stop h⟩⟩
  obtain ⟨d, e, e1, e2, rfl⟩ := zipD_get ez
  obtain ⟨v, ev, dv⟩ := (t.mow l).get e1
  obtain ⟨u, eu, du⟩ := (t2.mow l).get e2
  refine ⟨⟨vs, us, v, u, f2, g2, ev, eu⟩, fun x H' y => ?_⟩
  obtain ⟨T, x1, y1, rfl, hT, rfl, h1, h2⟩ := y
  have k1 := h1 vs f2
  have k2 := h2 us g2
  rw [ev] at k1
  rw [eu] at k2
  cases k1; cases k2
  exact pair_new2 R hT dv du
theorem s_zip {X : Cx} {W : WX} {e e2 : Expr} {r : MX (List D)} {p pos tpos : Pos} {elts : List Expr} {kk : Nat} (ha : PA X [e, e2] (tA X.K W r)) (hm : X.mg "zip" = none) (hg : Gl X "zip" := by rfl)
    (hs : starEach [e, e2] X.env = (false, eval e X.env) :: starEach [e2] X.env := by rfl) (hpl : (backTo pos (starEach [e2] X.env)).any (·.1) = false := by rfl) : PI X (.Tuple elts kk tpos) (.Call (.Name "zip" p) [e, e2] [] pos) (tI X.K W (iZipM r)) :=
  PI.imp (RZ.pi_zipA hg hm ha hs hpl) fun σ H R ⟨w, s, M, hH, Rp, S, h⟩ => by
    subst hH
    unfold iZipM at h
    refine tA_bind Rp S h fun es M' w' vs l R' q P => ?_
    split at P
    · obtain ⟨v, u, rfl, q1, q2⟩ := q.two_inv
      cases q1 with
      | tup f t => cases q2 with
        | tup g t2 => exact ⟨_, _, _, _, rfl, .inr ⟨f.sq, g.sq, P w' (Le.refl _) R' _ (walks_zipT f g t t2)⟩⟩
    · obtain ⟨v, u, rfl, q1, q2⟩ := q.two_inv
      cases q1 with
      | lst f t => cases q2 with
        | lst g t2 => exact ⟨_, _, _, _, rfl, .inl ⟨f.sq, g.sq, P w' (Le.refl _) R' _ (walks_zipL f g t t2)⟩⟩
    · exact P.elim
@[simp] theorem v_zip {r : MX (List D)} {s : Sl} {M : Mem} : iZipM r s M = (r s M).bind fun es M' => match es with
  | [.tup xs, .tup ys] => .ok (zipD xs ys, none) M'
  | [.lst xs, .lst ys] => .ok (zipD xs ys, none) M'
  | _ => .no := rfl
end MM
namespace MM
open PySem PySem.Spec PyProof.Rows L2
/-! ### dict(t) of a tuple of pairs -/
section
variable {X : Cx} {W : WX} {pos : Pos} {e : Expr} {r : MX (List D)}
theorem pairs_two {pins : List (Addr × Obj)} {σ : L2.St} {H : Hp} {s : Shared} (I : Inv X pins σ H s) : ∀ {ps : List Addr} {kvs : List (Key × V)}, Paired (fun p kv => SqT X.K H p [kV kv.1, kv.2]) ps kvs →
    ∃ (prs : List (Key × Value)) (pv : List (Value × Value)), KV kvs prs ∧ prs.length = ps.length ∧ pv.length = ps.length ∧ ∀ (j : Nat) (b : Addr), ps[j]? = some b → ∃ (k : Key) (u y : Value), prs[j]? = some (k, y) ∧ pv[j]? = some (u, y) ∧ IsTup s.heap b #[u, y] ∧ keyIs k u = true
  | _, _, .nil => ⟨[], [], .nil, rfl, rfl, fun j q e => by simp at e⟩
  | _, _, .cons (a := p) (b := kv) h t => by
    obtain ⟨prs, pv, r, hl, hl2, hp⟩ := pairs_two I t
    obtain ⟨its, rv, ht, _⟩ := I.tuple h
    obtain ⟨u, y, ei, ru, ry⟩ := vals2 rv
    subst ei
    refine ⟨(kv.1, y) :: prs, (u, y) :: pv, .cons ⟨rfl, ry⟩ r, by rw [List.length_cons, List.length_cons, hl], by rw [List.length_cons, List.length_cons, hl2], fun j q e => ?_⟩
    cases j with
    | zero =>
      have e' : p = q := Option.some.inj e
      subst e'
      exact ⟨_, _, _, rfl, rfl, ht, kV_is (P := X.prog) (w := X.w) ru⟩
    | succ j =>
      obtain ⟨k, u', y', e1, e2, e3⟩ := hp j q (by simpa using e)
      exact ⟨k, u', y', by simpa using e1, by simpa using e2, e3⟩
/-- a tuple without a dict, at the entry -/
def TupN (K : PySem.W.Frag) (H : Hp) (a : Addr) (vs : List V) : Prop := (∃ o : Obj, o.dict = none ∧ H a = some (.frz o (.tup vs))) ∨ FrK K a vs
theorem tupN_plain {pins : List (Addr × Obj)} {σ : L2.St} {H : Hp} {s : Shared} (I : Inv X pins σ H s) {a : Addr} {vs : List V} (h : TupN X.K H a vs) : ∃ its : List Value, Vals vs its ∧ its.length ≤ sizeLine ∧ PlainSeq "tuple" s.heap a its.toArray := by
  rcases h with ⟨o, hd, e⟩ | ⟨o, its, n, h1, h2, h3, h4, h5, h6⟩
  · obtain ⟨q, hz, its, rv, o', q2, hc, n, hdat⟩ := (show ObjOk X.prog X.w H s.heap a (.frz o (.tup vs)) from I.hok a _ e)
    rw [q] at q2
    cases q2
    exact ⟨its, rv, by rw [← rv.length]; exact hz, o, n, q, hc, hd, hdat⟩
  · exact ⟨its.toList, h6, by simpa using h5, o, n, I.kIn a o h1, h2, h3, by rw [h4]⟩
theorem call_dictT (hcalm : X.calm = true) : CallR X (.type "dict") (fun xs H Q => ∃ (a : Addr) (ps : List Addr) (kvs : List (Key × V)), xs = [.ref a] ∧ TupN X.K H a (ps.map V.ref) ∧ Paired (fun p kv => SqT X.K H p [kV kv.1, kv.2]) ps kvs ∧
    ∀ p, H p = none → Q (.ref p) (upd H p (.dK (mergeK [] kvs)))) := by
  intro pins s σ H xs us Q I r q
  obtain ⟨a, ps, kvs, ex, hq, hp, q⟩ := q
  subst ex
  obtain ⟨u, eu, rx⟩ := vals1 r
  subst eu
  cases rx
  obtain ⟨its, rv, hz, pl⟩ := tupN_plain I hq
  have ei := refs_at rv
  subst ei
  rw [List.length_map] at hz
  obtain ⟨prs, pv, rel, hl, hl2, hpr⟩ := pairs_two I hp
  have at_ : ∀ j, j < pv.length → ∃ b, ps[j]? = some b := fun j hj => ⟨ps[j]'(by omega), List.getElem?_eq_getElem (by omega)⟩
  have PI : PairItems s.heap (ps.map Value.ref).toArray (fun j => (ps[j]?).getD 0) pv := by
    refine ⟨by simp [hl2], fun j k v hj => ?_⟩
    obtain ⟨b, hb⟩ := at_ j (List.getElem?_eq_some_iff.mp hj).1
    obtain ⟨k', u, y, e1, e2, e3, e4⟩ := hpr j b hb
    rw [hj] at e2
    cases e2
    refine ⟨by simp [hb], .inl ?_⟩
    show s.heap.IsTuple ((ps[j]?).getD 0) #[k, v]
    rw [hb]
    exact e3
  refine PySem.call_dict_pairs (knd := mixKind X.prog X.w) (kvs := prs) (PairArg.tuple a (ps.map Value.ref).toArray (fun j => (ps[j]?).getD 0) pv) (I.ok.hd hcalm) ⟨pl, PI⟩ ⟨by rw [hl, hl2], fun i key v hi => ?_⟩ (by rw [hl2]; exact hz) fun h' tk hd' k => ?_
  · obtain ⟨b, hb⟩ := at_ i (List.getElem?_eq_some_iff.mp hi).1
    obtain ⟨k', u, y, e1, e2, e3, e4⟩ := hpr i b hb
    have hi : pv[i]? = some (key, v) := hi
    rw [hi] at e2
    cases e2
    exact ⟨k', e1, e4⟩
  · have hm : (s.heap.objs.size == sysModules) = false := beq_eq_false_iff_ne.mpr (Nat.ne_of_gt I.big)
    have hlen : (mergeK [] kvs).length ≤ sizeLine := by
      refine Nat.le_trans (length_mergeK kvs []) ?_
      rw [List.length_nil, Nat.zero_add, rel.length, hl]
      exact hz
    have k' : ∀ b o, s.heap.get? b = some o → h'.get? b = some o := fun b o e => k b o (fun z => nomatch z) e
    exact ⟨.ref s.heap.objs.size, upd H s.heap.objs.size (.dK (mergeK [] kvs)), I.laid (t' := tk) k' (Nat.le_refl _) (show ObjOk X.prog X.w _ _ _ (.dK (mergeK [] kvs)) from ⟨hlen, hm, merged [] prs, KV.merge rel .nil, hd'⟩), rfl, q _ (I.hok.fresh (Nat.le_refl _))⟩
def dPairsOf : List D → Option (List (Key × D))
  | [] => some []
  | .tup [k, v] :: r => (keyD k).bind fun key => (dPairsOf r).map fun ps => (key, v) :: ps
  | _ :: _ => none
def eDictOf (r : MX (List D)) : ME := fun s M => (r s M).bind fun es M' => match es with
  | [.tup ds] => match dPairsOf ds with
    | some kvs => .ok (.obj M'.length) (M' ++ [.dct (mergeD [] kvs)])
    | none => .no
  | _ => .no
theorem dPairs_V {K : PySem.W.Frag} {w : Wd} : ∀ {ds : List D} {vs : List V} {kvs : List (Key × D)}, Dens K w vs ds → dPairsOf ds = some kvs → ∃ (ps : List Addr) (pv : List (Key × V)), vs = ps.map V.ref ∧ Paired (fun p kv => SqT K w.H p [kV kv.1, kv.2]) ps pv ∧ KvR K w pv kvs
  | [], _, kvs, .nil, e => by cases e; exact ⟨[], [], rfl, .nil, rfl, .nil⟩
  | d :: r, _, kvs, .cons h t, e => by
    unfold dPairsOf at e
    split at e
    · rename_i hnil; cases hnil
    · rename_i k v r' heq
      cases heq
      obtain ⟨key, ek, e2⟩ := Option.bind_eq_some_iff.mp e
      obtain ⟨ps', e3, rfl⟩ := Option.map_eq_some_iff.mp e2
      obtain ⟨ps, pv, rfl, h2, h3⟩ := dPairs_V t e3
      cases h with
      | tup f t2 =>
        obtain ⟨x, y, rfl, q1, q2⟩ := t2.two_inv
        have ev := keyD_V q1 ek
        subst ev
        refine ⟨_ :: ps, (key, y) :: pv, rfl, .cons f.sq h2, ?_, .cons q2 h3.2⟩
        rw [List.map_cons, List.map_cons, h3.1]
    · cases e
theorem s_dictOf {p : Pos} (ha : PA X [e] (tA X.K W r)) (hm : X.mg "dict" = none) (hcalm : X.calm = true := by rfl) (hg : Gl X "dict" := by rfl) (hn : ("dict" : Str) ≠ "__name__" := by decide) (hdb : (("dict" : Str) == ("__debug__" : Str)) = false := by decide)
    (he : starEach [e] X.env = (false, eval e X.env) :: starEach [] X.env := by rfl) (hpl : (backTo pos (starEach [] X.env)).any (·.1) = false := by rfl) : PE X (.Call (.Name "dict" p) [e] [] pos) (tE X.K W (eDictOf r)) :=
  PE.imp (pe_callTy (call_dictT hcalm) hg hm boot_dict ha hn hdb he hpl) fun σ H Q ⟨w, s, M, hH, R, S, h⟩ => by
    subst hH
    have h := h.toG
    unfold eDictOf at h
    refine tA_bind R S h fun es M' w' vs l R' q P => ?_
    split at P
    · obtain ⟨v, rfl, q1⟩ := q.one_inv
      split at P
      · rename_i ds kvs ek
        cases q1 with
        | tup f t =>
          obtain ⟨ps, pv, rfl, h2, h3⟩ := dPairs_V t ek
          refine ⟨_, ps, pv, rfl, f.elim (fun f => .inl f.2) .inr, h2, fun p hp => ?_⟩
          have lc := le_cell (o := .dK (mergeK [] pv)) R' hp
          obtain ⟨k1, k2⟩ := (h3.mono lc).merge (ps := []) (kvs := []) ⟨rfl, .nil⟩
          have R2 := rep_cell (c := .dct (mergeD [] kvs)) (o := .dK (mergeK [] pv)) R' hp ⟨mergeK [] pv, upd_same, k1, k2⟩
          have z : (w'.cell p (.dK (mergeK [] pv))).r M'.length = p := by rw [← R'.n]; exact if_pos rfl
          have z2 : M'.length < (w'.cell p (.dK (mergeK [] pv))).n := by show M'.length < w'.n + 1; rw [R'.n]; exact Nat.lt_succ_self _
          have z3 : Den X.K (w'.cell p (.dK (mergeK [] pv))) (.ref ((w'.cell p (.dK (mergeK [] pv))).r M'.length)) (.obj M'.length) := .obj z2
          rw [z] at z3
          exact P (w'.cell p (.dK (mergeK [] pv))) lc R2 (.ref p) z3
      · exact P.elim
    · exact P.elim
end
end MM
namespace MM
open PySem PySem.Spec PyProof.Rows L2
/-! ### the mirrors, worked out -/
section
variable {s s' : Sl} {M M' : Mem} {a b : MS} {d : D}
@[simp] theorem v_bind {α β : Type} (x : α) (f : α → Mem → RE β) : (RE.ok x M).bind f = f x M := rfl
@[simp] theorem v_bind_no {α β : Type} (f : α → Mem → RE β) : (RE.no : RE α).bind f = .no := rfl
@[simp] theorem v_bind_ex {α β : Type} (c : String) (f : α → Mem → RE β) : (RE.ex c M : RE α).bind f = .ex c M := rfl
@[simp] theorem v_st {α : Type} (x : α) (f : α → Mem → RS) : (RE.ok x M).st s f = f x M := rfl
@[simp] theorem v_st_ex {α : Type} (c : String) (f : α → Mem → RS) : (RE.ex c M : RE α).st s f = .ex c s M := rfl
theorem v_bind_if {α β : Type} (p : Prop) [Decidable p] (x y : RE α) (f : α → Mem → RE β) : (if p then x else y).bind f = if p then x.bind f else y.bind f := by split <;> rfl
@[simp] theorem v_C (d : D) : eC d s M = .ok d M := rfl
theorem v_var (i : Nat) : eVar i s M = match s[i]? with | some (some d) => .ok d M | _ => .no := rfl
theorem v_var_ {i : Nat} (h : s[i]? = some (some d)) : eVar i s M = .ok d M := by unfold eVar; rw [h]
@[simp] theorem v_var0 (x : D) (r : Sl) : eVar 0 (some x :: r) M = .ok x M := rfl
@[simp] theorem v_varS (i : Nat) (y : Option D) (r : Sl) : eVar (i + 1) (y :: r) M = eVar i r M := rfl
@[simp] theorem v_var1 (y : Option D) (r : Sl) : eVar 1 (y :: r) M = eVar 0 r M := rfl
@[simp] theorem v_var2 (y : Option D) (r : Sl) : eVar 2 (y :: r) M = eVar 1 r M := rfl
@[simp] theorem v_var3 (y : Option D) (r : Sl) : eVar 3 (y :: r) M = eVar 2 r M := rfl
@[simp] theorem v_var4 (y : Option D) (r : Sl) : eVar 4 (y :: r) M = eVar 3 r M := rfl
@[simp] theorem v_var5 (y : Option D) (r : Sl) : eVar 5 (y :: r) M = eVar 4 r M := rfl
@[simp] theorem v_var6 (y : Option D) (r : Sl) : eVar 6 (y :: r) M = eVar 5 r M := rfl
@[simp] theorem v_var7 (y : Option D) (r : Sl) : eVar 7 (y :: r) M = eVar 6 r M := rfl
@[simp] theorem v_var8 (y : Option D) (r : Sl) : eVar 8 (y :: r) M = eVar 7 r M := rfl
@[simp] theorem v_var9 (y : Option D) (r : Sl) : eVar 9 (y :: r) M = eVar 8 r M := rfl
@[simp] theorem v_var10 (y : Option D) (r : Sl) : eVar 10 (y :: r) M = eVar 9 r M := rfl
@[simp] theorem v_var11 (y : Option D) (r : Sl) : eVar 11 (y :: r) M = eVar 10 r M := rfl
@[simp] theorem v_var12 (y : Option D) (r : Sl) : eVar 12 (y :: r) M = eVar 11 r M := rfl
@[simp] theorem v_var13 (y : Option D) (r : Sl) : eVar 13 (y :: r) M = eVar 12 r M := rfl
@[simp] theorem v_var14 (y : Option D) (r : Sl) : eVar 14 (y :: r) M = eVar 13 r M := rfl
@[simp] theorem v_nil : aNil s M = .ok [] M := rfl
@[simp] theorem v_cons (m : ME) (r : MX (List D)) : aCons m r s M = (m s M).bind fun d M1 => (r s M1).bind fun ds M2 => .ok (d :: ds) M2 := rfl
@[simp] theorem v_oo (x : D) : oo (some x) M = .ok x M := rfl
@[simp] theorem v_e2 (f : Mem → D → D → Option D) (x y : ME) : e2 f x y s M = (x s M).bind fun u M1 => (y s M1).bind fun v M2 => oo (f M2 u v) M2 := rfl
@[simp] theorem v_tOf (m : ME) : tOf m s M = (m s M).bind fun d M' => match d with | .bl b => .ok b M' | _ => .no := rfl
@[simp] theorem v_tAnd (t u : MX Bool) : tAnd2 t u s M = (t s M).bind fun c M1 => if c = true then u s M1 else .ok false M1 := rfl
@[simp] theorem v_tOr (t u : MX Bool) : tOr2 t u s M = (t s M).bind fun c M1 => if c = true then .ok true M1 else u s M1 := rfl
@[simp] theorem v_tNot (t : MX Bool) : tNot1 t s M = (t s M).bind fun c M1 => .ok (!c) M1 := rfl
@[simp] theorem v_And (x y : ME) : eAnd x y s M = (tOf x s M).bind fun c M1 => if c = true then y s M1 else .ok (.bl false) M1 := rfl
@[simp] theorem v_Or (x y : ME) : eOr x y s M = (tOf x s M).bind fun c M1 => if c = true then .ok (.bl true) M1 else y s M1 := rfl
@[simp] theorem v_Not (x : ME) : eNot x s M = (tOf x s M).bind fun c M1 => .ok (.bl (!c)) M1 := rfl
@[simp] theorem v_If (t : MX Bool) (x y : ME) : eIf t x y s M = (t s M).bind fun c M1 => if c = true then x s M1 else y s M1 := rfl
@[simp] theorem v_Chain (f g : Mem → D → D → Option D) (x y z : ME) : eChain f g x y z s M = (x s M).bind fun x M1 => (y s M1).bind fun y M2 => (oo (f M2 x y) M2).bind fun k M2 =>
    match k with | .bl true => (z s M2).bind fun z M3 => oo (g M3 y z) M3 | .bl false => .ok (.bl false) M2 | _ => .no := rfl
@[simp] theorem v_Tup (r : MX (List D)) : eTup r s M = (r s M).bind fun ds M' => if ds.length ≤ sizeLine then .ok (.tup ds) M' else .no := rfl
@[simp] theorem v_Lst (r : MX (List D)) : lLst r s M = (r s M).bind fun ds M' => if ds.length ≤ sizeLine then .ok ds M' else .no := rfl
@[simp] theorem v_Tree (r : MX (List D)) : eTree r s M = (r s M).bind fun ds M' => .ok (.lst ds) M' := rfl
@[simp] theorem v_Cell (r : MX (List D)) : eCell r s M = (r s M).bind fun ds M' => .ok (.obj M'.length) (M' ++ [.lst ds]) := rfl
@[simp] theorem v_Sl (ma : ME) (lo hi : MO) : eSl ma lo hi s M = (ma s M).bind fun d M1 => (lo s M1).bind fun l M2 => (hi s M2).bind fun h M3 => oo (cutD M3 d l h) M3 := rfl
@[simp] theorem v_lSl (ma : ME) (lo hi : MO) : lSl ma lo hi s M = (ma s M).bind fun d M1 => (lo s M1).bind fun l M2 => (hi s M2).bind fun h M3 => match listA M3 d with | some xs => .ok (cutL xs l h) M3 | none => .no := rfl
@[simp] theorem v_oNo : oNo s M = .ok none M := rfl
@[simp] theorem v_oYes (m : ME) : oYes m s M = (m s M).bind fun d M' => match d with | .int i => .ok (some i) M' | _ => .no := rfl
@[simp] theorem v_B (f : Mem → List D → Option D) (r : MX (List D)) : eB f r s M = (r s M).bind fun ds M' => oo (f M' ds) M' := rfl
@[simp] theorem v_Call (np : Nat) (dd : List D) (m : Fn) (r : MX (List D)) : eCall np dd m r s M = (r s M).bind fun ds M' => if (ds ++ dd).length = np then m (ds ++ dd) M' else .no := rfl
@[simp] theorem v_M (T : String) (f : Mem → D → List D → Option (D × Mem)) (mo : ME) (r : MX (List D)) : eM T f mo r s M = (mo s M).bind fun d M1 => if tyIs T M1 d = true then (r s M1).bind fun ds M2 => match f M2 d ds with
    | some (z, M3) => .ok z M3 | none => .no else .no := rfl
@[simp] theorem v_Neg (m : ME) : eNeg m s M = (m s M).bind fun d M' => oo (negD d) M' := rfl
@[simp] theorem v_Dict0 : eDict0 s M = .ok (.obj M.length) (M ++ [.dct []]) := rfl
@[simp] theorem v_iSeq (m : ME) : iSeq m s M = (m s M).bind fun d M' => match d with
  | .str x => .ok (strD x, none) M'
  | .tup ds => .ok (ds, none) M'
  | .lst ds => .ok (ds, none) M'
  | .arg ds => .ok (ds, none) M'
  | .ktup ds => .ok (ds, none) M'
  | .obj i => match M'[i]? with | some (.lst ds) => .ok (ds, some i) M' | _ => .no
  | _ => .no := rfl
theorem v_rng1 (m : ME) : iRange1 m s M = (m s M).bind fun d M' => match d with
  | .int j => ifC (-(2 ^ 62) ≤ j ∧ j < 2 ^ 62) (.ok (rng 0 j.toNat, none) M') .no
  | _ => .no := rfl
theorem v_rng2 (x y : ME) : iRange2 x y s M = (x s M).bind fun d M1 => (y s M1).bind fun e M' => match d, e with
  | .int i, .int j => ifC (-(2 ^ 62) ≤ i ∧ i < 2 ^ 62 ∧ -(2 ^ 62) ≤ j ∧ j < 2 ^ 62) (.ok (rng i (j - i).toNat, none) M') .no
  | _, _ => .no := rfl
theorem small62 {n : Nat} (h : n ≤ 100000) : -(2 ^ 62) ≤ (n : Int) ∧ (n : Int) < 2 ^ 62 :=
  ⟨Int.le_trans (by decide : -(2 ^ 62 : Int) ≤ 0) (Int.natCast_nonneg n), Int.lt_of_le_of_lt (Int.ofNat_le.mpr h) (by decide)⟩
theorem rng1_j {m : ME} {j : Int} (h : m s M = .ok (.int j) M') (hj : -(2 ^ 62) ≤ j ∧ j < 2 ^ 62) : iRange1 m s M = .ok (rng 0 j.toNat, none) M' := by
  rw [v_rng1, h]
  simp only [v_bind]
  rw [ifC_pos hj]
theorem rng1_ok {m : ME} {n : Nat} {j : Int} (h : m s M = .ok (.int j) M') (e : j = (n : Int)) (hn : n ≤ 100000) : iRange1 m s M = .ok (rng 0 n, none) M' := by
  have e2 : j.toNat = n := by omega
  rw [rng1_j h (by rw [e]; exact small62 hn), e2]
theorem rng2_j {x y : ME} {i j : Int} {M1 : Mem} (h1 : x s M = .ok (.int i) M1) (h2 : y s M1 = .ok (.int j) M') (hi : -(2 ^ 62) ≤ i ∧ i < 2 ^ 62) (hj : -(2 ^ 62) ≤ j ∧ j < 2 ^ 62) : iRange2 x y s M = .ok (rng i (j - i).toNat, none) M' := by
  rw [v_rng2, h1]
  simp only [v_bind]
  rw [h2]
  simp only [v_bind]
  rw [ifC_pos ⟨hi.1, hi.2, hj⟩]
theorem rng2_ok {x y : ME} {i j n : Nat} {di dj : Int} {M1 : Mem} (h1 : x s M = .ok (.int di) M1) (h2 : y s M1 = .ok (.int dj) M') (ei : di = (i : Int)) (ej : dj = (j : Int)) (e : j - i = n) (hi : i ≤ 100000) (hj : j ≤ 100000) : iRange2 x y s M = .ok (rng i n, none) M' := by
  have e2 : (dj - di).toNat = n := by omega
  rw [rng2_j h1 h2 (by rw [ei]; exact small62 hi) (by rw [ej]; exact small62 hj), e2, ei]
@[simp] theorem v_tYes : tYesM s M = .ok true M := rfl
@[simp] theorem v_gSet (i : Nat) : gSet i d s = some (s.set i (some d)) := rfl
/-! statements -/
@[simp] theorem v_sNil : sNil s M = .nx s M := rfl
theorem v_sSeq : sSeq a b s M = match a s M with | .nx s' M' => b s' M' | r => r := rfl
theorem v_seq (h : a s M = .nx s' M') : sSeq a b s M = b s' M' := by unfold sSeq; rw [h]
theorem v_seq_rt (h : a s M = .rt d M') : sSeq a b s M = .rt d M' := by unfold sSeq; rw [h]
theorem v_seq_ct (h : a s M = .ct s' M') : sSeq a b s M = .ct s' M' := by unfold sSeq; rw [h]
@[simp] theorem v_sIf (t : MX Bool) : sIf t a b s M = (t s M).st s fun c M' => if c = true then a s M' else b s M' := rfl
@[simp] theorem v_sAsg (m : ME) (g : TgM) : sAsg m g s M = (m s M).st s fun d M' => match g d s with
  | some s' => .nx s' M'
  | none => .no := rfl
@[simp] theorem v_sSetC (m : MX (List D)) (cell : Bool) (i : Nat) : sSetC m cell i s M = sAsg (if cell then eCell m else eTree m) (gSet i) s M := rfl
@[simp] theorem v_sRet (m : ME) : sRet m s M = (m s M).st s fun d M' => .rt d M' := rfl
@[simp] theorem v_sRetN : sRetN s M = .rt .non M := rfl
@[simp] theorem v_sExpr (m : ME) : sExpr m s M = (m s M).st s fun _ M' => .nx s M' := rfl
@[simp] theorem v_sBrk : sBrk s M = .bk s M := rfl
@[simp] theorem v_sCnt : sCnt s M = .ct s M := rfl
@[simp] theorem v_seq_nx : (match (RS.nx s M) with | .nx s' M' => b s' M' | r => r) = b s M := rfl
end

/-! ### values worked out -/
section
variable {M : Mem} {i j : Int} {x y : Str} {xs ys : List D} {d e : D}
@[simp] theorem w_add : addD M (.int i) (.int j) = some (.int (i + j)) := rfl
@[simp] theorem w_sub : subD M (.int i) (.int j) = some (.int (i - j)) := rfl
theorem w_mul (h : mulOk i j = true) : mulD M (.int i) (.int j) = some (.int (i * j)) := by show (if mulOk i j = true then some (D.int (i * j)) else none) = _; rw [if_pos h]
theorem mulOk_l (h : -(2 ^ 64) < i ∧ i < 2 ^ 64) : mulOk i j = true := mulOk_iff.mpr (.inl h)
theorem mulOk_r (h : -(2 ^ 64) < j ∧ j < 2 ^ 64) : mulOk i j = true := mulOk_iff.mpr (.inr (.inl h))
theorem w_mod (h : 0 < j) : modD M (.int i) (.int j) = some (.int (i % j)) := by show (if 0 < j then some (D.int (i % j)) else none) = _; rw [if_pos h]
theorem w_fdiv (h : 0 < j) (h2 : j.natAbs.log2 < 9000 := by decide) : fdivD M (.int i) (.int j) = some (.int (i / j)) := by show (if 0 < j ∧ j.natAbs.log2 < 9000 then some (D.int (i / j)) else none) = _; rw [if_pos ⟨h, h2⟩]
theorem two64 : (2 : Int) ^ 64 = 18446744073709551616 := by decide
theorem log_small {j : Int} (h : 0 < j) (h2 : j < 18446744073709551616) : j.natAbs.log2 < 9000 := by
  have e : (2 : Nat) ^ 64 = 18446744073709551616 := by decide
  have h3 : j.natAbs.log2 < 64 := (Nat.log2_lt (by omega)).mpr (by omega)
  omega
theorem w_fdivS (h : 0 < j) (h2 : j < 18446744073709551616) : fdivD M (.int i) (.int j) = some (.int (i / j)) := w_fdiv h (log_small h h2)
theorem w_mulL (h : -18446744073709551616 < i) (h2 : i < 18446744073709551616) : mulD M (.int i) (.int j) = some (.int (i * j)) := w_mul (mulOk_l (by rw [two64]; exact ⟨h, h2⟩))
theorem w_mulR (h : -18446744073709551616 < j) (h2 : j < 18446744073709551616) : mulD M (.int i) (.int j) = some (.int (i * j)) := w_mul (mulOk_r (by rw [two64]; exact ⟨h, h2⟩))
theorem w_pow (h : 0 ≤ j ∧ j ≤ 1000000 ∧ i.natAbs < 2 ^ 64) : powD M (.int i) (.int j) = some (.int (i ^ j.toNat)) := by show (if 0 ≤ j ∧ j ≤ 1000000 ∧ i.natAbs < 2 ^ 64 then some (D.int (i ^ j.toNat)) else none) = _; rw [if_pos h]
@[simp] theorem w_ltI : ltB M (.int i) (.int j) = some (.bl (decide (i < j))) := rfl
@[simp] theorem w_gtI : gtB M (.int i) (.int j) = some (.bl (decide (j < i))) := rfl
@[simp] theorem w_leI : leB M (.int i) (.int j) = some (.bl (decide (i ≤ j))) := rfl
@[simp] theorem w_geI : geB M (.int i) (.int j) = some (.bl (decide (j ≤ i))) := rfl
@[simp] theorem w_lenO {k : Nat} (h : M[k]? = some (.lst xs)) : lenD M [.obj k] = some (.int xs.length) := by simp only [lenD, h]
@[simp] theorem w_lenT : lenD M [.tup xs] = some (.int xs.length) := rfl
@[simp] theorem w_lenL : lenD M [.lst xs] = some (.int xs.length) := rfl
@[simp] theorem w_lenA : lenD M [.arg xs] = some (.int xs.length) := rfl
@[simp] theorem w_lenS : lenD M [.str x] = some (.int x.length) := rfl
theorem w_ix {α : Type} {xs : List α} {d : α} {i : Int} {k : Nat} (h : xs[k]? = some d) (hi : i = (k : Int)) : atI xs i = some d := by
  subst hi
  have hk : k < xs.length := (List.getElem?_eq_some_iff.mp h).1
  unfold atI ixN
  rw [if_pos (by omega : (0 : Int) ≤ (k : Int)), if_pos (by omega)]
  simpa using h
end

/-! ### loops -/
section
variable {tg : TgM} {b : MS} {all : List D} {c : MX Bool}
@[simp] theorem guard_none {M : Mem} {ds : List D} : guardOk M ds none := fun i h => by cases h
theorem forG_inv (I : Nat → Sl → Mem → Prop) : ∀ (rest : List D) (k : Nat) (s : Sl) (M : Mem), I k s M →
    (∀ i d s M, rest[i]? = some d → I (k + i) s M → ∃ s1 s2 M2, tg d s = some s1 ∧ (b s1 M = .nx s2 M2 ∨ b s1 M = .ct s2 M2) ∧ I (k + i + 1) s2 M2) →
    ∃ s' M', forG tg b all none rest s M = .nx s' M' ∧ I (k + rest.length) s' M'
  | [], k, s, M, h, _ => ⟨s, M, by rw [forG, if_pos guard_none], h⟩
  | d :: ds, k, s, M, h, st => by
    obtain ⟨s1, s2, M2, e1, e2, h2⟩ := st 0 d s M rfl h
    obtain ⟨s3, M3, e3, h3⟩ := forG_inv I ds (k + 1) s2 M2 h2 fun i d s M q J => by
      obtain ⟨t1, t2, N2, q1, q2, q3⟩ := st (i + 1) d s M (by simpa using q) (by rw [show k + (i + 1) = k + 1 + i by omega]; exact J)
      exact ⟨t1, t2, N2, q1, q2, by rw [show k + 1 + i + 1 = k + (i + 1) + 1 by omega]; exact q3⟩
    refine ⟨s3, M3, ?_, by rw [List.length_cons, show k + (ds.length + 1) = k + 1 + ds.length by omega]; exact h3⟩
    rw [forG, if_pos guard_none, e1]
    rcases e2 with e2 | e2 <;> (dsimp only; rw [e2]; exact e3)
/-- from 0 on -/
theorem for_inv (I : Nat → Sl → Mem → Prop) {it : MI} {ds : List D} {s : Sl} {M M1 : Mem} (hi : it s M = .ok (ds, none) M1) (h0 : I 0 s M1)
    (st : ∀ i d s M, ds[i]? = some d → I i s M → ∃ s1 s2 M2, tg d s = some s1 ∧ (b s1 M = .nx s2 M2 ∨ b s1 M = .ct s2 M2) ∧ I (i + 1) s2 M2) :
    ∃ s' M', sFor it tg b s M = .nx s' M' ∧ I ds.length s' M' := by
  obtain ⟨s', M', e, h⟩ := forG_inv (tg := tg) (b := b) (all := ds) I ds 0 s M1 h0 fun i d s M q J => by
    have := st i d s M q (by simpa using J)
    simpa using this
  exact ⟨s', M', by unfold sFor; rw [hi]; exact e, by simpa using h⟩
/-- with a way out by a return, a break -/
theorem forG_or (I : Nat → Sl → Mem → Prop) (R : RS → Prop) : ∀ (rest : List D) (k : Nat) (s : Sl) (M : Mem), I k s M →
    (∀ i d s M, rest[i]? = some d → I (k + i) s M → ∃ s1, tg d s = some s1 ∧ ((∃ s2 M2, (b s1 M = .nx s2 M2 ∨ b s1 M = .ct s2 M2) ∧ I (k + i + 1) s2 M2) ∨ (∃ x M2, b s1 M = .rt x M2 ∧ R (.rt x M2)) ∨ (∃ s2 M2, b s1 M = .bk s2 M2 ∧ R (.nx s2 M2)))) →
    (∀ s' M', I (k + rest.length) s' M' → R (.nx s' M')) → R (forG tg b all none rest s M)
  | [], k, s, M, h, _, kk => by rw [forG, if_pos guard_none]; exact kk s M h
  | d :: ds, k, s, M, h, st, kk => by
    obtain ⟨s1, e1, e2⟩ := st 0 d s M rfl h
    rw [forG, if_pos guard_none, e1]
    dsimp only
    rcases e2 with ⟨s2, M2, e2, h2⟩ | ⟨x, M2, e2, h2⟩ | ⟨s2, M2, e2, h2⟩
    · have g := forG_or I R ds (k + 1) s2 M2 h2 (fun i d s M q J => by
        obtain ⟨t1, q1, q2⟩ := st (i + 1) d s M (by simpa using q) (by rw [show k + (i + 1) = k + 1 + i by omega]; exact J)
        exact ⟨t1, q1, by rw [show k + 1 + i + 1 = k + (i + 1) + 1 by omega]; exact q2⟩) fun s' M' J => kk s' M' (by rw [List.length_cons, show k + (ds.length + 1) = k + 1 + ds.length by omega]; exact J)
      rcases e2 with e2 | e2 <;> (rw [e2]; exact g)
    · rw [e2]; exact h2
    · rw [e2]; exact h2
theorem for_or (I : Nat → Sl → Mem → Prop) (R : RS → Prop) {it : MI} {ds : List D} {s : Sl} {M M1 : Mem} (hi : it s M = .ok (ds, none) M1) (h0 : I 0 s M1)
    (st : ∀ i d s M, ds[i]? = some d → I i s M → ∃ s1, tg d s = some s1 ∧ ((∃ s2 M2, (b s1 M = .nx s2 M2 ∨ b s1 M = .ct s2 M2) ∧ I (i + 1) s2 M2) ∨ (∃ x M2, b s1 M = .rt x M2 ∧ R (.rt x M2)) ∨ (∃ s2 M2, b s1 M = .bk s2 M2 ∧ R (.nx s2 M2))))
    (kk : ∀ s' M', I ds.length s' M' → R (.nx s' M')) : R (sFor it tg b s M) := by
  unfold sFor
  rw [hi]
  exact forG_or I R ds 0 s M1 h0 (fun i d s M q J => by
    have := st i d s M q (by simpa using J)
    simpa using this) fun s' M' J => kk s' M' (by simpa using J)
theorem while_inv (I : Nat → Sl → Mem → Prop) (Q : Sl → Mem → Prop) (st : ∀ n s M, I n s M → (∃ M1, c s M = .ok false M1 ∧ Q s M1) ∨ ∃ M1 s2 M2 n', c s M = .ok true M1 ∧ (b s M1 = .nx s2 M2 ∨ b s M1 = .ct s2 M2) ∧ n' < n ∧ I n' s2 M2) {n : Nat} {s : Sl} {M : Mem}
    (h : I n s M) : ∃ s' M', sWhile c b s M = .nx s' M' ∧ Q s' M' := by
  have key : ∀ n s M, I n s M → ∃ s' M', whG c b (n + 1) s M = .nx s' M' ∧ Q s' M' := by
    intro n
    induction n using Nat.strongRecOn with
    | _ n ih =>
      intro s M h
      rcases st n s M h with ⟨M1, e, q⟩ | ⟨M1, s2, M2, n', e, e2, hn, h2⟩
      · exact ⟨s, M1, by rw [whG, e]; rfl, q⟩
      · obtain ⟨s3, M3, e3, q⟩ := ih n' hn s2 M2 h2
        have e4 : whG c b n s2 M2 = .nx s3 M3 := by rw [whG_mono c b (n' + 1) s2 M2 (by rw [e3]; exact fun z => nomatch z) n hn]; exact e3
        refine ⟨s3, M3, ?_, q⟩
        rw [whG, e]
        rcases e2 with e2 | e2 <;> (simp only [RE.st, if_true]; rw [e2]; exact e4)
  obtain ⟨s', M', e, q⟩ := key n s M h
  exact ⟨s', M', sWhile_eq e (fun z => nomatch z), q⟩
end
/-! ### comprehensions -/
section
variable {tg : TgM} {tt : MX Bool} {te : ME} {s : Sl} {M : Mem} {all : List D}
theorem compG_map {h : D → D} : ∀ (rest acc : List D), (∀ d ∈ rest, ∃ s2, tg d s = some s2 ∧ tt s2 M = .ok true M ∧ te s2 M = .ok (h d) M) → acc.length + rest.length ≤ sizeLine →
    compG tg tt te s all none rest acc M = .ok (acc ++ rest.map h) M
  | [], acc, _, _ => by rw [compG, if_pos guard_none]; simp
  | d :: ds, acc, k, hl => by
    obtain ⟨s2, e1, e2, e3⟩ := k d (by simp)
    rw [List.length_cons] at hl
    have g := compG_map (h := h) ds (acc ++ [h d]) (fun d hd => k d (by simp [hd])) (by simp; omega)
    rw [compG, if_pos guard_none, e1]
    dsimp only
    rw [e2]
    show (if true = true then (te s2 M).bind fun y M2 => if acc.length < sizeLine then compG tg tt te s all none ds (acc ++ [y]) M2 else .no else compG tg tt te s all none ds acc M) = _
    rw [if_pos rfl, e3]
    show (if acc.length < sizeLine then compG tg tt te s all none ds (acc ++ [h d]) M else .no) = _
    rw [if_pos (by omega), g]
    simp
theorem comp_map {it : MI} {own : List Nat} {ds : List D} {M0 : Mem} (h : D → D) (hi : it s M0 = .ok (ds, none) M) (k : ∀ d ∈ ds, ∃ s2, tg d (wipeD s own) = some s2 ∧ tt s2 M = .ok true M ∧ te s2 M = .ok (h d) M) (hl : ds.length ≤ sizeLine) :
    lComp it tg tt te own s M0 = .ok (ds.map h) M := by
  unfold lComp
  rw [hi]
  show noex (compG tg tt te (wipeD s own) ds none ds [] M) = _
  rw [compG_map (h := h) ds [] k (by simpa using hl)]
  rfl
theorem compG_filter {p : D → Bool} {h : D → D} : ∀ (rest acc : List D), (∀ d ∈ rest, ∃ s2, tg d s = some s2 ∧ tt s2 M = .ok (p d) M ∧ (p d = true → te s2 M = .ok (h d) M)) → acc.length + rest.length ≤ sizeLine →
    compG tg tt te s all none rest acc M = .ok (acc ++ (rest.filter p).map h) M
  | [], acc, _, _ => by rw [compG, if_pos guard_none]; simp
  | d :: ds, acc, k, hl => by
    obtain ⟨s2, e1, e2, e3⟩ := k d (by simp)
    rw [List.length_cons] at hl
    rw [compG, if_pos guard_none, e1]
    dsimp only
    rw [e2]
    show (if p d = true then (te s2 M).bind fun y M2 => if acc.length < sizeLine then compG tg tt te s all none ds (acc ++ [y]) M2 else .no else compG tg tt te s all none ds acc M) = _
    cases hp : p d with
    | true =>
      have g := compG_filter (p := p) (h := h) ds (acc ++ [h d]) (fun d hd => k d (by simp [hd])) (by simp; omega)
      rw [if_pos rfl, e3 hp]
      show (if acc.length < sizeLine then compG tg tt te s all none ds (acc ++ [h d]) M else .no) = _
      rw [if_pos (by omega), g, List.filter_cons_of_pos hp]
      simp
    | false =>
      have g := compG_filter (p := p) (h := h) ds acc (fun d hd => k d (by simp [hd])) (by omega)
      rw [if_neg (by simp), g, List.filter_cons_of_neg (by simp [hp])]
theorem comp_filter {it : MI} {own : List Nat} {ds : List D} {M0 : Mem} (p : D → Bool) (h : D → D) (hi : it s M0 = .ok (ds, none) M) (k : ∀ d ∈ ds, ∃ s2, tg d (wipeD s own) = some s2 ∧ tt s2 M = .ok (p d) M ∧ (p d = true → te s2 M = .ok (h d) M)) (hl : ds.length ≤ sizeLine) :
    lComp it tg tt te own s M0 = .ok ((ds.filter p).map h) M := by
  unfold lComp
  rw [hi]
  show noex (compG tg tt te (wipeD s own) ds none ds [] M) = _
  rw [compG_filter (p := p) (h := h) ds [] k (by simpa using hl)]
  rfl
end
/-! ### defs -/
theorem fn_rt {np n : Nat} {b : MS} {ds : List D} {M M' : Mem} {d : D} (hl : ds.length = np) (h : b (ds.map some ++ List.replicate (n - np) none) M = .rt d M') : fn np n b ds M = .ok d M' := by
  unfold fn; rw [if_pos hl, h]
theorem fn_nx {np n : Nat} {b : MS} {ds : List D} {M M' : Mem} {s' : Sl} (hl : ds.length = np) (h : b (ds.map some ++ List.replicate (n - np) none) M = .nx s' M') : fn np n b ds M = .ok .non M' := by
  unfold fn; rw [if_pos hl, h]
open Classical in
theorem fnP_ok {m : Fn} {ds : List D} {M M' : Mem} {d e : D} (h : m ds M = .ok d M') (h1 : M'.take M.length = M) (h2 : frz M' M.length d = some e) : fnP m ds M = .ok e M := by
  unfold fnP
  rw [h]
  show (if M'.take M.length = M then (match frz M' M.length d with | some e => RE.ok e M | none => .no) else .no) = _
  rw [if_pos h1, h2]

theorem cut_to {xs : List D} {n : Nat} : cutL xs none (some (n : Int)) = xs.take n := by
  unfold cutL
  have h0 : HT.sIx xs.length 0 none = 0 := rfl
  have h : HT.sIx xs.length xs.length (some (n : Int)) = min n xs.length := HT.sIx_nat _ _ _
  rw [h0, h, List.drop_zero, Nat.sub_zero]
  rcases Nat.le_total n xs.length with e | e
  · rw [Nat.min_eq_left e]
  · rw [Nat.min_eq_right e, List.take_of_length_le (Nat.le_refl _), List.take_of_length_le e]
theorem frzs_ints (M : Mem) (n : Nat) : ∀ xs : List Int, frzs M n (xs.map .int) = some (xs.map .int)
  | [] => rfl
  | x :: xs => by
    rw [List.map_cons, frzs, frzs_ints M n xs]
    rfl
theorem rng_get {i : Nat} {n : Nat} {d : D} (h : (rng 0 n)[i]? = some d) : i < n ∧ d = .int i := by
  unfold rng at h
  rw [List.getElem?_map] at h
  obtain ⟨k, e1, rfl⟩ := Option.map_eq_some_iff.mp h
  obtain ⟨h2, e2⟩ := List.getElem?_eq_some_iff.mp e1
  simp at h2 e2
  subst e2
  exact ⟨h2, by simp⟩
theorem rng_len (i : Int) (n : Nat) : (rng i n).length = n := by simp [rng]

/-! ### texts gone through -/
theorem bools_map {α : Type} (p : α → Bool) : ∀ l : List α, bools (l.map fun c => D.bl (p c)) = some (l.map p)
  | [] => rfl
  | c :: l => by
    rw [List.map_cons, bools, bools_map p l]
    rfl
theorem all_list {M : Mem} {α : Type} (p : α → Bool) (l : List α) : allD M [.lst (l.map fun c => D.bl (p c))] = some (.bl (l.all p)) := by
  unfold allD
  show (bools (l.map fun c => D.bl (p c))).map (fun bs => D.bl (bs.all id)) = _
  rw [bools_map]
  simp
theorem any_list {M : Mem} {α : Type} (p : α → Bool) (l : List α) : anyD M [.lst (l.map fun c => D.bl (p c))] = some (.bl (l.any p)) := by
  unfold anyD
  show (bools (l.map fun c => D.bl (p c))).map (fun bs => D.bl (bs.any id)) = _
  rw [bools_map]
  simp
/-- a comprehension over a list's image -/
theorem comp_over {α : Type} {it : MI} {tg : TgM} {te : ME} {own : List Nat} {s : Sl} {M M0 : Mem} {l : List α} (f : α → D) (g : α → D) (hi : it s M0 = .ok (l.map f, none) M) (k : ∀ c ∈ l, ∃ s2, tg (f c) (wipeD s own) = some s2 ∧ te s2 M = .ok (g c) M) (hl : l.length ≤ sizeLine) :
    lComp it tg tYesM te own s M0 = .ok (l.map g) M := by
  have aux : ∀ (l acc : List _) (all : List D), (∀ c ∈ l, ∃ s2, tg (f c) (wipeD s own) = some s2 ∧ te s2 M = .ok (g c) M) → acc.length + l.length ≤ sizeLine → compG tg tYesM te (wipeD s own) all none (l.map f) acc M = .ok (acc ++ l.map g) M := by
    intro l
    induction l with
    | nil => intro acc all _ _; rw [List.map_nil, compG, if_pos guard_none]; simp
    | cons c l ih =>
      intro acc all k hl
      obtain ⟨s2, e1, e2⟩ := k c (by simp)
      rw [List.length_cons] at hl
      rw [List.map_cons, compG, if_pos guard_none, e1]
      have e3 : tYesM s2 M = .ok true M := rfl
      simp only [e3, v_bind, if_true, e2]
      rw [if_pos (by omega), ih (acc ++ [g c]) all (fun d hd => k d (by simp [hd])) (by simp; omega)]
      simp
  unfold lComp
  rw [hi]
  show noex (compG tg tYesM te (wipeD s own) (l.map f) none (l.map f) [] M) = _
  rw [aux l [] _ k (by simpa using hl)]
  rfl
theorem comp_signs {m : ME} {te : ME} {own : List Nat} {s : Sl} {M : Mem} {x : Str} {j : Nat} (p : Nat → Bool) (hi : m s M = .ok (.str x) M) (k : ∀ c ∈ x.cps.toList, te ((wipeD s own).set j (some (.str ⟨#[c]⟩))) M = .ok (.bl (p c)) M) (hl : x.length ≤ 5000) :
    lComp (iSeq m) (gSet j) tYesM te own s M = .ok (x.cps.toList.map fun c => D.bl (p c)) M :=
  comp_over (fun c => D.str ⟨#[c]⟩) (fun c => D.bl (p c)) (by unfold iSeq; rw [hi]; rfl) (fun c hc => ⟨_, rfl, k c hc⟩) (Nat.le_trans (by simpa [Str.length] using hl) (by decide))

/-! ### == worked out -/
theorem depth_min {a b : Nat} (h : a ≤ 64) : min a b ≤ 64 := Nat.le_trans (Nat.min_le_left _ _) h
@[simp] theorem w_eqS {M : Mem} {x y : Str} : eqB M (.str x) (.str y) = some (.bl (x == y)) := by simp [eqB, eqD, toPy, PyData.eqv, PyData.depth]
@[simp] theorem w_neS {M : Mem} {x y : Str} : neB M (.str x) (.str y) = some (.bl (!(x == y))) := by simp [neB, eqD, toPy, PyData.eqv, PyData.depth]
@[simp] theorem w_eqI {M : Mem} {i j : Int} : eqB M (.int i) (.int j) = some (.bl (i == j)) := by simp [eqB, eqD, toPy, PyData.eqv, PyData.depth]
@[simp] theorem w_neI {M : Mem} {i j : Int} : neB M (.int i) (.int j) = some (.bl (!(i == j))) := by simp [neB, eqD, toPy, PyData.eqv, PyData.depth]
theorem toPys_bls (M : Mem) : ∀ bs : List Bool, toPys M (bs.map D.bl) = some (bs.map PyData.bool)
  | [] => rfl
  | b :: bs => by
    rw [List.map_cons, toPys, toPys_bls M bs]
    rfl
theorem eqv_bls : ∀ bs : List Bool, PyData.eqvAll (bs.map PyData.bool) (bs.map PyData.bool) = true
  | [] => rfl
  | b :: bs => by
    rw [List.map_cons, PyData.eqvAll, eqv_bls bs]
    simp [PyData.eqv]
theorem depth_bls : ∀ bs : List Bool, PyData.depthAll (bs.map PyData.bool) ≤ 1
  | [] => by simp [PyData.depthAll]
  | b :: bs => by
    have := depth_bls bs
    rw [List.map_cons, PyData.depthAll]
    simp [PyData.depth]
    omega
theorem w_ne_bls {M : Mem} (bs : List Bool) : neB M (.lst (bs.map D.bl)) (.lst (bs.map D.bl)) = some (.bl false) := by
  have := depth_bls bs
  unfold neB eqD
  rw [toPy, toPys_bls]
  simp only [Option.map_some, PyData.eqv, eqv_bls, PyData.depth]
  rw [if_pos (depth_min (by omega))]
  rfl
theorem w_eq_bls {M : Mem} (bs : List Bool) : eqB M (.lst (bs.map D.bl)) (.lst (bs.map D.bl)) = some (.bl true) := by
  have := depth_bls bs
  unfold eqB eqD
  rw [toPy, toPys_bls]
  simp only [Option.map_some, PyData.eqv, eqv_bls, PyData.depth]
  rw [if_pos (depth_min (by omega))]
  rfl
@[simp] theorem w_inS1 {M : Mem} {c : Nat} {y : Str} : inB M (.str ⟨#[c]⟩) (.str y) = some (.bl (decide (c ∈ y.cps.toList))) := by
  show some (D.bl (subS ⟨#[c]⟩ y)) = _
  unfold subS
  rw [PySem.StrLaws.found_one]
@[simp] theorem w_ninS1 {M : Mem} {c : Nat} {y : Str} : ninB M (.str ⟨#[c]⟩) (.str y) = some (.bl (!decide (c ∈ y.cps.toList))) := by
  show some (D.bl (!(subS ⟨#[c]⟩ y))) = _
  unfold subS
  rw [PySem.StrLaws.found_one]

/-! ### more of comprehensions, slices, lists -/
theorem comp_ex {α : Type} {it : MI} {tg : TgM} {te : ME} {own : List Nat} {s : Sl} {M M0 : Mem} {l : List α} (f : α → D) (P : D → Prop) (hi : it s M0 = .ok (l.map f, none) M) (k : ∀ c ∈ l, ∃ s2 y, tg (f c) (wipeD s own) = some s2 ∧ te s2 M = .ok y M ∧ P y) (hl : l.length ≤ sizeLine) :
    ∃ ys, lComp it tg tYesM te own s M0 = .ok ys M ∧ ys.length = l.length ∧ ∀ y ∈ ys, P y := by
  have key : ∀ c : α, ∃ y, c ∈ l → ∃ s2, tg (f c) (wipeD s own) = some s2 ∧ te s2 M = .ok y M ∧ P y := by
    intro c
    by_cases h : c ∈ l
    · obtain ⟨s2, y, h1, h2, h3⟩ := k c h
      exact ⟨y, fun _ => ⟨s2, h1, h2, h3⟩⟩
    · exact ⟨.non, fun z => absurd z h⟩
  have e := comp_over (te := te) (own := own) f (fun c => (key c).choose) hi (fun c hc => by
    obtain ⟨s2, h1, h2, _⟩ := (key c).choose_spec hc
    exact ⟨s2, h1, h2⟩) hl
  refine ⟨_, e, by rw [List.length_map], fun y hy => ?_⟩
  obtain ⟨c, hc, rfl⟩ := List.mem_map.mp hy
  obtain ⟨_, _, _, h⟩ := (key c).choose_spec hc
  exact h
theorem cut_map {α : Type} (f : α → D) (l : List α) (lo hi : Option Int) : ∃ m : List α, cutL (l.map f) lo hi = m.map f ∧ (∀ c ∈ m, c ∈ l) ∧ m.length ≤ l.length := by
  refine ⟨(l.drop (HT.sIx l.length 0 lo)).take (HT.sIx l.length l.length hi - HT.sIx l.length 0 lo), ?_, fun c hc => List.mem_of_mem_drop (List.mem_of_mem_take hc), ?_⟩
  · unfold cutL
    rw [List.map_take, List.map_drop, List.length_map]
  · rw [List.length_take, List.length_drop]
    omega
@[simp] theorem le_size {n : Nat} (h : n ≤ 5000) : n ≤ sizeLine := Nat.le_trans h (by decide)
theorem atI_lt {α : Type} {ds : List α} {i : Int} (h0 : 0 ≤ i) (h1 : i < ds.length) : ∃ d, atI ds i = some d ∧ d ∈ ds := by
  have hk : i.toNat < ds.length := by omega
  refine ⟨ds[i.toNat], ?_, List.getElem_mem _⟩
  unfold atI ixN
  rw [if_pos h0, if_pos h1]
  simp [hk]
@[simp] theorem w_ixL {M : Mem} {xs : List D} {i : Int} : idxD M (.lst xs) (.int i) = atI xs i := rfl
@[simp] theorem w_ixT {M : Mem} {xs : List D} {i : Int} : idxD M (.tup xs) (.int i) = atI xs i := rfl
@[simp] theorem w_ixA {M : Mem} {xs : List D} {i : Int} : idxD M (.arg xs) (.int i) = atI xs i := rfl
@[simp] theorem atI_0 {α : Type} {x : α} {xs : List α} : atI (x :: xs) 0 = some x := w_ix (k := 0) rfl rfl
@[simp] theorem atI_1 {α : Type} {x y : α} {xs : List α} : atI (x :: y :: xs) 1 = some y := w_ix (k := 1) rfl rfl
@[simp] theorem atI_2 {α : Type} {x y z : α} {xs : List α} : atI (x :: y :: z :: xs) 2 = some z := w_ix (k := 2) rfl rfl
@[simp] theorem atI_3 {α : Type} {x y z u : α} {xs : List α} : atI (x :: y :: z :: u :: xs) 3 = some u := w_ix (k := 3) rfl rfl
@[simp] theorem atI_4 {α : Type} {x y z u v : α} {xs : List α} : atI (x :: y :: z :: u :: v :: xs) 4 = some v := w_ix (k := 4) rfl rfl
@[simp] theorem w_cutL {M : Mem} {xs : List D} {lo hi : Option Int} : MM.cutD M (.lst xs) lo hi = some (.lst (cutL xs lo hi)) := rfl
@[simp] theorem w_cutA {M : Mem} {xs : List D} {lo hi : Option Int} : MM.cutD M (.arg xs) lo hi = some (.lst (cutL xs lo hi)) := rfl
theorem w_addL {M : Mem} {xs ys : List D} (h : xs.length + ys.length ≤ 5000) : addD M (.lst xs) (.lst ys) = some (.lst (xs ++ ys)) := by
  show (if xs.length + ys.length ≤ sizeLine then some (D.lst (xs ++ ys)) else none) = _
  rw [if_pos (le_size h)]
theorem isi_ok {M : Mem} {d : D} {t c : String} (h : tyD M d = some t) (hc : c ∈ isiTys) : isiD M [d, .ty c] = some (.bl (subTy t c)) := by
  unfold isiD
  dsimp only
  rw [if_pos hc, h]
  rfl
theorem asg_ok {m : ME} {i : Nat} {s : Sl} {M M' : Mem} {d : D} (h : m s M = .ok d M') : sAsg m (gSet i) s M = .nx (s.set i (some d)) M' := by
  unfold sAsg
  rw [h]
  rfl
theorem seq_set {m : ME} {i : Nat} {s s' : Sl} {b : MS} {M M' : Mem} {d : D} (h : m s M = .ok d M') (hs : s.set i (some d) = s') : sSeq (sAsg m (gSet i)) b s M = b s' M' := by
  rw [v_seq (asg_ok h), hs]
@[simp] theorem w_intB {M : Mem} {b : Bool} : intD M [.bl b] = some (.int (if b then 1 else 0)) := rfl
@[simp] theorem w_intI {M : Mem} {i : Int} : intD M [.int i] = some (.int i) := rfl
@[simp] theorem w_neg {i : Int} : negD (.int i) = some (.int (-i)) := rfl
@[simp] theorem w_eqBl {M : Mem} {a b : Bool} : eqB M (.bl a) (.bl b) = some (.bl (a == b)) := by simp [eqB, eqD, toPy, PyData.eqv, PyData.depth]
@[simp] theorem w_ltS {M : Mem} {x y : Str} : ltB M (.str x) (.str y) = some (.bl (cpsLt x y)) := rfl
@[simp] theorem is_nonN {M : Mem} : isB M .non .non = some (.bl true) := rfl
@[simp] theorem is_nonI {M : Mem} {i : Int} : isB M (.int i) .non = some (.bl false) := rfl
@[simp] theorem is_nonS {M : Mem} {x : Str} : isB M (.str x) .non = some (.bl false) := rfl
@[simp] theorem v_gTup2 {s : Sl} {i j : Nat} {d e : D} : gTupM [gSet i, gSet j] (.tup [d, e]) s = some ((s.set i (some d)).set j (some e)) := rfl
@[simp] theorem w_ixK {M : Mem} {xs : List D} {i : Int} : idxD M (.ktup xs) (.int i) = atI xs i := rfl
end MM
namespace MM
open PySem PySem.Spec PyProof.Rows L2
/-! ### the end of a law -/
theorem dens_ints {K : PySem.W.Frag} {w : Wd} : ∀ ns : List Int, Dens K w (ns.map V.int) (ns.map D.int)
  | [] => .nil
  | n :: ns => .cons (.int n) (dens_ints ns)
theorem sp_start {K : PySem.W.Frag} {H : Hp} {a : Addr} {ns : List Int} {f : Fn} {M' : Mem} {E : XK} (hS : SqL K H a (ns.map V.int)) (h : f [.arg (ns.map D.int)] [] = .ok (.bl true) M') :
    spM K 1 f [.ref a] H (fun v _ => v = .bl true) E := by
  let w : Wd := ⟨H, fun b => H b ≠ none, fun _ => False, 0, fun _ => 0⟩
  have R : Rep K w [] := ⟨rfl, fun _ h => h, fun _ h => h.elim, fun i hi => absurd hi (Nat.not_lt_zero _), fun i hi => absurd hi (Nat.not_lt_zero _), fun _ _ h => h, fun i _ hi => absurd hi (Nat.not_lt_zero _), fun i c e => by simp at e⟩
  have fa : FrA K w a (ns.map V.int) := by
    rcases hS with h | h
    · refine .inl ⟨?_, h⟩
      rcases h with h | ⟨o, h⟩ <;> exact fun z => nomatch (h.symm.trans z)
    · exact .inr h
  refine ⟨w, [.arg (ns.map D.int)], [], rfl, R, .one (.arg fa (dens_ints ns)), rfl, ?_⟩
  rw [h]
  intro w' v l R' q
  cases q
  rfl
theorem walkM {l : PySem.W.OpenLaw} {k : Nat} {q : Program} {loose : List Str} {XP : (Str → Option Value) → Heap → Prop} {YP : World → Heap → Prop} {d : DefRec} {x : Str} {m : Fn} (hn : l.most = some 63) (hdf : d.params.defaults = []) (hr : Room k callerA)
    (F : ∀ (w : World) (mg : Str → Option Value) (f : Addr) (h : Heap), YP w h → h.Ns mainGlobals mg → mg d.name = some (.ref f) → ∃ (K : PySem.W.Frag) (fd : FuncData), K.In h ∧ (∀ (s : Shared) (u : Value), BindsTo s fd ⟨[u], []⟩ [(x, u)]) ∧
      ∀ base : Heap, K.In base → base.Ns mainGlobals mg → FnS l.prog w K mg base k f fd [x] m)
    (hm : ∀ ns : List Int, ns.length ≤ 63 → ∃ M', m [.arg (ns.map D.int)] [] = .ok (.bl true) M') : PySem.W.WalkO q loose XP YP l.row.toRowW d [] (fun f vs => PySem.call f vs) := by
  refine Att.attach_call hn hdf fun w s₀ s₁ mg mb fa o pm cd doc a vs ns G Y ho hd hcd hmg hobj hints hlen hg => ?_
  obtain ⟨K, fd, KX, hb, hF⟩ := F w mg fa _ Y G.T.g hmg
  obtain ⟨M', e⟩ := hm ns hlen
  refine law_call KX G.T.g G.T.b G.T.builtins G.T.nolimit hg hobj hints (Nat.le_trans hlen (by decide)) hr hF hb (fun H _ hS => sp_start hS e) fun H e s' h => ?_
  obtain ⟨_, _, _, _, _, _, _, _, _, _, _, _, z⟩ := h
  exact z
/-! ### what the top has left, by names -/
section
variable {P : Program} {w : World} {K : PySem.W.Frag} {mg : Str → Option Value} {base : Heap}
theorem con_str {x y : Str} {t : _} (h : mg x = some (.str y t)) (hy : okS y = true) : Con K mg x (.str y) := ⟨_, .str y, h, ⟨_, rfl⟩, fun _ => .str y hy⟩
theorem con_int {x : Str} {i : Int} {t : _} (h : mg x = some (.int i t)) : Con K mg x (.int i) := ⟨_, .int i, h, ⟨_, rfl⟩, fun _ => .int i⟩
theorem gfn0 {x qual : Str} {st : Stmt} {f : Addr} {fd : FuncData} {ps : List Str} {k : Nat} {m : Fn} (D : L2.FunD K x qual (defArgs st) (defBody st) (defScope st) [] [] f fd) (hg : mg x = some (.ref f)) (hb : Binds K fd ps [])
    (h : L2.Fun K x qual st f fd → FnS P w K mg base k f fd ps m) : GFn P w K mg base x k ps.length [] m := by
  obtain ⟨oc, od, dV, kV, doc, pm, an, cdv, ct, osl, e, l, c, hd, _⟩ := D.ex
  have F : L2.Fun K x qual st f fd := by
    rcases hd with ⟨_, e2⟩ | ⟨e2, _⟩
    · rw [e2] at e
      exact ⟨⟨oc, od, kV, doc, pm, an, cdv, ct, osl, e, l, c⟩, D.kp⟩
    · exact absurd rfl e2
  exact ⟨f, fd, ps, [], [], hg, D.kp, hb, .nil, fun _ => .nil, rfl, h F⟩
theorem fun0 {x qual : Str} {st : Stmt} {f : Addr} {fd : FuncData} (D : L2.FunD K x qual (defArgs st) (defBody st) (defScope st) [] [] f fd) : L2.Fun K x qual st f fd := by
  obtain ⟨oc, od, dV, kV, doc, pm, an, cdv, ct, osl, e, l, c, hd, _⟩ := D.ex
  rcases hd with ⟨_, e2⟩ | ⟨e2, _⟩
  · rw [e2] at e
    exact ⟨⟨oc, od, kV, doc, pm, an, cdv, ct, osl, e, l, c⟩, D.kp⟩
  · exact absurd rfl e2
end
end MM
namespace LW
open PySem PySem.Spec PyProof.Rows L2 MM
def top (i : Nat) : Stmt := PySem.Challenge.pw_pageturns_k05_orders_places_gaps_known.main.body.getD i (.Pass ⟨0, 0, 0, 0⟩)
def k_SMALL : D := (.str "abcdefghijklmnopqrstuvwxyz")
def k_FIGURES : D := (.str "0123456789")
def k_MOST_SIGNS : D := (.int 40)
def k_WAYS : D := (.tup [(.str "up"), (.str "down")])
def k_ENDS : D := (.tup [(.str "first"), (.str "last")])
def k_SIDES : D := (.tup [(.str "ahead"), (.str "behind")])
def k_MOST_PARTS : D := (.int 8)
def excs : List String := ["PageError", "BadColumns", "BadOrder", "BadSieve", "BadPlace"]
def tb_PageError : List (String × Bool) := [("PageError", true), ("BadColumns", true), ("BadOrder", true), ("BadSieve", true), ("BadPlace", true)]
def ktA : List ((String × String) × Bool) := [(("PageError", "BadColumns"), false), (("PageError", "BadOrder"), false), (("PageError", "BadPlace"), false), (("PageError", "BadSieve"), false), (("BadColumns", "BadColumns"), true), (("BadColumns", "BadOrder"), false), (("BadColumns", "BadPlace"), false), (("BadColumns", "BadSieve"), false), (("BadOrder", "BadColumns"), false), (("BadOrder", "BadOrder"), true), (("BadOrder", "BadPlace"), false), (("BadOrder", "BadSieve"), false), (("BadSieve", "BadColumns"), false), (("BadSieve", "BadOrder"), false), (("BadSieve", "BadPlace"), false), (("BadSieve", "BadSieve"), true), (("BadPlace", "BadColumns"), false), (("BadPlace", "BadOrder"), false), (("BadPlace", "BadPlace"), true), (("BadPlace", "BadSieve"), false)]
section
variable {P : Program} {w : World} {K : PySem.W.Frag} {mg : Str → Option Value} {base : Heap}
abbrev st_is_whole : Stmt := top 10
abbrev N_is_whole : List Str := ["thing"]
theorem sc_is_whole : FnScope ["thing"] ["thing"] (defScope st_is_whole) := ⟨rfl, rfl, rfl, by decide +kernel, rfl, by decide +kernel, by decide +kernel⟩
noncomputable def m_is_whole : MS := (sRet (eAnd (eB isiD (aCons (eVar 0) (aCons (eC (.ty "int")) aNil))) (eAnd (e2 isntB (eVar 0) (eC (.bl true))) (e2 isntB (eVar 0) (eC (.bl false))))))
noncomputable def f_is_whole : Fn := fn 1 1 m_is_whole
noncomputable def p_is_whole : Fn := fnP f_is_whole
theorem ok_is_whole {f : Addr} {fd : FuncData} (F : L2.Fun K "is_whole" "is_whole" st_is_whole f fd) (b_int : mg "int" = none) (b_isinstance : mg "isinstance" = none) : FnS P w K mg base 1 f fd ["thing"] f_is_whole :=
  fn_body F sc_is_whole fun cdv A outer s H E hr =>
    have nd := sc_is_whole.nd
    have tk := takes_of (X := cxOf (L2.CX P w) P w K mg base ["thing"] "is_whole" (defScope st_is_whole) f cdv A outer s H E) (E := E) rfl rfl rfl rfl
    have po := passes_of (X := cxOf (L2.CX P w) P w K mg base ["thing"] "is_whole" (defScope st_is_whole) f cdv A outer s H E) rfl
    (s_sone (s_ret (s_vand (s_blt c_isi boot_isinstance (s_cons (s_var 0) (s_cons (s_bname boot_int b_int) s_nil)) b_isinstance) (s_vand (s_cmp d_isnt (s_var 0) s_bl) (s_vone (s_cmp d_isnt (s_var 0) s_bl))))))
abbrev st_is_key : Stmt := top 11
abbrev N_is_key : List Str := ["thing", "sign"]
theorem sc_is_key : FnScope ["thing", "sign"] ["thing"] (defScope st_is_key) := ⟨rfl, rfl, rfl, by decide +kernel, rfl, by decide +kernel, by decide +kernel⟩
noncomputable def m_is_key : MS := (sSeq (sIf (tOr2 (tNot1 (tOf (eB isiD (aCons (eVar 0) (aCons (eC (.ty "str")) aNil))))) (tOr2 (tNot1 (tOf (eChain leB leB (eC (.int 1)) (eB lenD (aCons (eVar 0) aNil)) (eC (.int 12))))) (tOf (e2 ninB (e2 idxD (eVar 0) (eC (.int 0))) (eC k_SMALL))))) (sRet (eC (.bl false))) sNil)
    (sRet (eB allD (aCons (eTree (lComp (iSeq (eVar 0)) (gSet 1) tYesM (eOr (e2 inB (eVar 1) (eC k_SMALL)) (e2 inB (eVar 1) (eC k_FIGURES))) [1])) aNil))))
noncomputable def f_is_key : Fn := fn 1 2 m_is_key
noncomputable def p_is_key : Fn := fnP f_is_key
theorem ok_is_key {f : Addr} {fd : FuncData} (F : L2.Fun K "is_key" "is_key" st_is_key f fd) (b_all : mg "all" = none) (b_isinstance : mg "isinstance" = none) (b_len : mg "len" = none) (b_str : mg "str" = none) (c_FIGURES : Con K mg "FIGURES" k_FIGURES) (c_SMALL : Con K mg "SMALL" k_SMALL) : FnS P w K mg base 1 f fd ["thing"] f_is_key :=
  fn_body F sc_is_key fun cdv A outer s H E hr =>
    have nd := sc_is_key.nd
    have tk := takes_of (X := cxOf (L2.CX P w) P w K mg base ["thing", "sign"] "is_key" (defScope st_is_key) f cdv A outer s H E) (E := E) rfl rfl rfl rfl
    have po := passes_of (X := cxOf (L2.CX P w) P w K mg base ["thing", "sign"] "is_key" (defScope st_is_key) f cdv A outer s H E) rfl
    (s_scons (s_if (PW.pt (s_or (s_not (s_test (s_blt c_isi boot_isinstance (s_cons (s_var 0) (s_cons (s_bname boot_str b_str) s_nil)) b_isinstance))) (s_or (s_not (s_tchain d_le d_le s_int (s_blt c_len PySem.boot_len (s_cons (s_var 0) s_nil) b_len) s_int)) (s_or1 (s_tcmp (d_nin hr) (s_ix hr (s_var 0) s_int) (s_glob c_SMALL)))))) (s_sone (s_ret s_bl)) s_snil)
    (s_sone (s_ret (s_blt (c_all rfl) (by decide +kernel) (s_cons (s_tree (s_comp rfl nd (s_iseq (s_var 0)) (blkOk_by (own := [("sign", 1)]) (by show blkC N_is_key (defScope st_is_key) _ _ = true; decide +kernel)) (fun _ _ _ _ _ => (s_gname 1 nd)) (fun _ _ _ _ _ => s_tsno) (fun _ _ _ _ _ => (s_vor (s_cmp (d_in_ hr) (s_var 1) (s_glob c_SMALL)) (s_vone (s_cmp (d_in_ hr) (s_var 1) (s_glob c_FIGURES))))))) s_nil) b_all))))
abbrev st_is_word : Stmt := top 12
abbrev N_is_word : List Str := ["thing", "sign"]
theorem sc_is_word : FnScope ["thing", "sign"] ["thing"] (defScope st_is_word) := ⟨rfl, rfl, rfl, by decide +kernel, rfl, by decide +kernel, by decide +kernel⟩
noncomputable def m_is_word : MS := (sRet (eAnd (eB isiD (aCons (eVar 0) (aCons (eC (.ty "str")) aNil))) (eAnd (e2 leB (eB lenD (aCons (eVar 0) aNil)) (eC k_MOST_SIGNS)) (eB allD (aCons (eTree (lComp (iSeq (eVar 0)) (gSet 1) tYesM (eChain leB leB (eC (.str " ")) (eVar 1) (eC (.str "~"))) [1])) aNil)))))
noncomputable def f_is_word : Fn := fn 1 2 m_is_word
noncomputable def p_is_word : Fn := fnP f_is_word
theorem ok_is_word {f : Addr} {fd : FuncData} (F : L2.Fun K "is_word" "is_word" st_is_word f fd) (b_all : mg "all" = none) (b_isinstance : mg "isinstance" = none) (b_len : mg "len" = none) (b_str : mg "str" = none) (c_MOST_SIGNS : Con K mg "MOST_SIGNS" k_MOST_SIGNS) : FnS P w K mg base 1 f fd ["thing"] f_is_word :=
  fn_body F sc_is_word fun cdv A outer s H E hr =>
    have nd := sc_is_word.nd
    have tk := takes_of (X := cxOf (L2.CX P w) P w K mg base ["thing", "sign"] "is_word" (defScope st_is_word) f cdv A outer s H E) (E := E) rfl rfl rfl rfl
    have po := passes_of (X := cxOf (L2.CX P w) P w K mg base ["thing", "sign"] "is_word" (defScope st_is_word) f cdv A outer s H E) rfl
    (s_sone (s_ret (s_vand (s_blt c_isi boot_isinstance (s_cons (s_var 0) (s_cons (s_bname boot_str b_str) s_nil)) b_isinstance) (s_vand (s_cmp d_le (s_blt c_len PySem.boot_len (s_cons (s_var 0) s_nil) b_len) (s_glob c_MOST_SIGNS)) (s_vone (s_blt (c_all rfl) (by decide +kernel) (s_cons (s_tree (s_comp rfl nd (s_iseq (s_var 0)) (blkOk_by (own := [("sign", 1)]) (by show blkC N_is_word (defScope st_is_word) _ _ = true; decide +kernel)) (fun _ _ _ _ _ => (s_gname 1 nd)) (fun _ _ _ _ _ => s_tsno) (fun _ _ _ _ _ => (s_chain d_le d_le s_str (s_var 1) s_str)))) s_nil) b_all))))))
abbrev st_is_value : Stmt := top 13
abbrev N_is_value : List Str := ["kind", "thing"]
theorem sc_is_value : FnScope ["kind", "thing"] ["kind", "thing"] (defScope st_is_value) := ⟨rfl, rfl, rfl, by decide +kernel, rfl, by decide +kernel, by decide +kernel⟩
noncomputable def m_is_value : MS := (sSeq (sIf (tOf (e2 isB (eVar 1) (eC .non))) (sRet (eC (.bl true))) sNil)
    (sSeq (sIf (tOf (e2 eqB (eVar 0) (eC (.str "number")))) (sRet (eCall 1 [] f_is_whole (aCons (eVar 1) aNil))) sNil)
    (sRet (eCall 1 [] f_is_word (aCons (eVar 1) aNil)))))
noncomputable def f_is_value : Fn := fn 2 2 m_is_value
noncomputable def p_is_value : Fn := fnP f_is_value
theorem ok_is_value {f : Addr} {fd : FuncData} (F : L2.Fun K "is_value" "is_value" st_is_value f fd) (G_is_whole : GFn P w K mg base "is_whole" 1 1 [] f_is_whole) (G_is_word : GFn P w K mg base "is_word" 1 1 [] f_is_word) : FnS P w K mg base 2 f fd ["kind", "thing"] f_is_value :=
  fn_body F sc_is_value fun cdv A outer s H E hr =>
    have nd := sc_is_value.nd
    have tk := takes_of (X := cxOf (L2.CX P w) P w K mg base ["kind", "thing"] "is_value" (defScope st_is_value) f cdv A outer s H E) (E := E) rfl rfl rfl rfl
    have po := passes_of (X := cxOf (L2.CX P w) P w K mg base ["kind", "thing"] "is_value" (defScope st_is_value) f cdv A outer s H E) rfl
    (s_scons (s_if (s_tcmp d_is (s_var 1) s_non) (s_sone (s_ret s_bl)) s_snil)
    (s_scons (s_if (s_tcmp (d_eq hr) (s_var 0) s_str) (s_sone (s_ret (s_call G_is_whole hr tk (s_cons (s_var 1) s_nil)))) s_snil)
    (s_sone (s_ret (s_call G_is_word hr tk (s_cons (s_var 1) s_nil))))))
abbrev st_is_tuple : Stmt := top 15
abbrev N_is_tuple : List Str := ["thing", "many"]
theorem sc_is_tuple : FnScope ["thing", "many"] ["thing", "many"] (defScope st_is_tuple) := ⟨rfl, rfl, rfl, by decide +kernel, rfl, by decide +kernel, by decide +kernel⟩
noncomputable def m_is_tuple : MS := (sRet (eAnd (eB isiD (aCons (eVar 0) (aCons (eC (.ty "tuple")) aNil))) (e2 eqB (eB lenD (aCons (eVar 0) aNil)) (eVar 1))))
noncomputable def f_is_tuple : Fn := fn 2 2 m_is_tuple
noncomputable def p_is_tuple : Fn := fnP f_is_tuple
theorem ok_is_tuple {f : Addr} {fd : FuncData} (F : L2.Fun K "is_tuple" "is_tuple" st_is_tuple f fd) (b_isinstance : mg "isinstance" = none) (b_len : mg "len" = none) (b_tuple : mg "tuple" = none) : FnS P w K mg base 1 f fd ["thing", "many"] f_is_tuple :=
  fn_body F sc_is_tuple fun cdv A outer s H E hr =>
    have nd := sc_is_tuple.nd
    have tk := takes_of (X := cxOf (L2.CX P w) P w K mg base ["thing", "many"] "is_tuple" (defScope st_is_tuple) f cdv A outer s H E) (E := E) rfl rfl rfl rfl
    have po := passes_of (X := cxOf (L2.CX P w) P w K mg base ["thing", "many"] "is_tuple" (defScope st_is_tuple) f cdv A outer s H E) rfl
    (s_sone (s_ret (s_vand (s_blt c_isi boot_isinstance (s_cons (s_var 0) (s_cons (s_bname boot_tuple b_tuple) s_nil)) b_isinstance) (s_vone (s_cmp (d_eq hr) (s_blt c_len PySem.boot_len (s_cons (s_var 0) s_nil) b_len) (s_var 1))))))
abbrev st_column_at : Stmt := top 16
abbrev N_column_at : List Str := ["columns", "name", "k", "column"]
theorem sc_column_at : FnScope ["columns", "name", "k", "column"] ["columns", "name"] (defScope st_column_at) := ⟨rfl, rfl, rfl, by decide +kernel, rfl, by decide +kernel, by decide +kernel⟩
noncomputable def m_column_at : MS := (sSeq (sFor (iEnumM (aCons (eVar 0) aNil)) (gTupM [(gSet 2), (gSet 3)]) (sIf (tOf (e2 eqB (e2 idxD (eVar 3) (eC (.int 0))) (eVar 1))) (sRet (eVar 2)) sNil))
    (sRet (eC .non)))
noncomputable def f_column_at : Fn := fn 2 4 m_column_at
noncomputable def p_column_at : Fn := fnP f_column_at
theorem ok_column_at {f : Addr} {fd : FuncData} (F : L2.Fun K "column_at" "column_at" st_column_at f fd) (b_enumerate : mg "enumerate" = none) : FnS P w K mg base 1 f fd ["columns", "name"] f_column_at :=
  fn_body F sc_column_at fun cdv A outer s H E hr =>
    have nd := sc_column_at.nd
    have tk := takes_of (X := cxOf (L2.CX P w) P w K mg base ["columns", "name", "k", "column"] "column_at" (defScope st_column_at) f cdv A outer s H E) (E := E) rfl rfl rfl rfl
    have po := passes_of (X := cxOf (L2.CX P w) P w K mg base ["columns", "name", "k", "column"] "column_at" (defScope st_column_at) f cdv A outer s H E) rfl
    (s_scons (s_for po rfl (s_enum (s_cons (s_var 0) s_nil) b_enumerate) (s_gtup rfl (s_gcons (s_gname 2 nd) (s_gcons (s_gname 3 nd) s_gnil))) (s_sone (s_if (s_tcmp (d_eq hr) (s_ix hr (s_var 3) s_int) (s_var 1)) (s_sone (s_ret (s_var 2))) s_snil)))
    (s_sone (s_ret s_non)))
abbrev st_kind_named : Stmt := top 17
abbrev N_kind_named : List Str := ["columns", "name", "at"]
theorem sc_kind_named : FnScope ["columns", "name", "at"] ["columns", "name"] (defScope st_kind_named) := ⟨rfl, rfl, rfl, by decide +kernel, rfl, by decide +kernel, by decide +kernel⟩
noncomputable def m_kind_named : MS := (sSeq (sAsg (eCall 2 [] f_column_at (aCons (eVar 0) (aCons (eVar 1) aNil))) (gSet 2))
    (sSeq (sIf (tOf (e2 isB (eVar 2) (eC .non))) (sRet (eC .non)) sNil)
    (sRet (e2 idxD (e2 idxD (eVar 0) (eVar 2)) (eC (.int 1))))))
noncomputable def f_kind_named : Fn := fn 2 3 m_kind_named
noncomputable def p_kind_named : Fn := fnP f_kind_named
theorem ok_kind_named {f : Addr} {fd : FuncData} (F : L2.Fun K "kind_named" "kind_named" st_kind_named f fd) (G_column_at : GFn P w K mg base "column_at" 1 2 [] f_column_at) : FnS P w K mg base 2 f fd ["columns", "name"] f_kind_named :=
  fn_body F sc_kind_named fun cdv A outer s H E hr =>
    have nd := sc_kind_named.nd
    have tk := takes_of (X := cxOf (L2.CX P w) P w K mg base ["columns", "name", "at"] "kind_named" (defScope st_kind_named) f cdv A outer s H E) (E := E) rfl rfl rfl rfl
    have po := passes_of (X := cxOf (L2.CX P w) P w K mg base ["columns", "name", "at"] "kind_named" (defScope st_kind_named) f cdv A outer s H E) rfl
    (s_scons (s_set 2 (s_call G_column_at hr tk (s_cons (s_var 0) (s_cons (s_var 1) s_nil))) nd)
    (s_scons (s_if (s_tcmp d_is (s_var 2) s_non) (s_sone (s_ret s_non)) s_snil)
    (s_sone (s_ret (s_ix hr (s_ix hr (s_var 0) (s_var 2)) s_int)))))
abbrev st_is_part : Stmt := top 23
abbrev N_is_part : List Str := ["columns", "thing"]
theorem sc_is_part : FnScope ["columns", "thing"] ["columns", "thing"] (defScope st_is_part) := ⟨rfl, rfl, rfl, by decide +kernel, rfl, by decide +kernel, by decide +kernel⟩
noncomputable def m_is_part : MS := (sSeq (sIf (tOr2 (tNot1 (tOf (eCall 2 [] f_is_tuple (aCons (eVar 1) (aCons (eC (.int 3)) aNil))))) (tOf (e2 isB (eCall 2 [] f_kind_named (aCons (eVar 0) (aCons (e2 idxD (eVar 1) (eC (.int 0))) aNil))) (eC .non)))) (sRet (eC (.bl false))) sNil)
    (sRet (eAnd (e2 inB (e2 idxD (eVar 1) (eC (.int 1))) (eC k_WAYS)) (e2 inB (e2 idxD (eVar 1) (eC (.int 2))) (eC k_ENDS)))))
noncomputable def f_is_part : Fn := fn 2 2 m_is_part
noncomputable def p_is_part : Fn := fnP f_is_part
theorem ok_is_part {f : Addr} {fd : FuncData} (F : L2.Fun K "is_part" "is_part" st_is_part f fd) (c_ENDS : Con K mg "ENDS" k_ENDS) (c_WAYS : Con K mg "WAYS" k_WAYS) (G_is_tuple : GFn P w K mg base "is_tuple" 1 2 [] f_is_tuple) (G_kind_named : GFn P w K mg base "kind_named" 2 2 [] f_kind_named) : FnS P w K mg base 3 f fd ["columns", "thing"] f_is_part :=
  fn_body F sc_is_part fun cdv A outer s H E hr =>
    have nd := sc_is_part.nd
    have tk := takes_of (X := cxOf (L2.CX P w) P w K mg base ["columns", "thing"] "is_part" (defScope st_is_part) f cdv A outer s H E) (E := E) rfl rfl rfl rfl
    have po := passes_of (X := cxOf (L2.CX P w) P w K mg base ["columns", "thing"] "is_part" (defScope st_is_part) f cdv A outer s H E) rfl
    (s_scons (s_if (PW.pt (s_or (s_not (s_test (s_call G_is_tuple hr tk (s_cons (s_var 1) (s_cons s_int s_nil))))) (s_or1 (s_tcmp d_is (s_call G_kind_named hr tk (s_cons (s_var 0) (s_cons (s_ix hr (s_var 1) s_int) s_nil))) s_non)))) (s_sone (s_ret s_bl)) s_snil)
    (s_sone (s_ret (s_vand (s_cmp (d_in_ hr) (s_ix hr (s_var 1) s_int) (s_glob c_WAYS)) (s_vone (s_cmp (d_in_ hr) (s_ix hr (s_var 1) s_int) (s_glob c_ENDS)))))))
abbrev st_check_order : Stmt := top 24
abbrev N_check_order : List Str := ["columns", "order", "parts", "names", "part"]
theorem sc_check_order : FnScope ["columns", "order", "parts", "names", "part"] ["columns", "order"] (defScope st_check_order) := ⟨rfl, rfl, rfl, by decide +kernel, rfl, by decide +kernel, by decide +kernel⟩
noncomputable def m_check_order : MS := (sSeq (sIf (tOr2 (tNot1 (tOf (eCall 2 [] f_is_tuple (aCons (eVar 1) (aCons (eC (.int 2)) aNil))))) (tOf (e2 ninB (e2 idxD (eVar 1) (eC (.int 1))) (eC k_WAYS)))) (sRaise "BadOrder") sNil)
    (sSeq (sAsg (e2 idxD (eVar 1) (eC (.int 0))) (gSet 2))
    (sSeq (sIf (tOr2 (tNot1 (tOf (eB isiD (aCons (eVar 2) (aCons (eC (.ty "tuple")) aNil))))) (tOf (e2 gtB (eB lenD (aCons (eVar 2) aNil)) (eC k_MOST_PARTS)))) (sRaise "BadOrder") sNil)
    (sSeq (sIf (tNot1 (tOf (eB allD (aCons (eTree (lComp (iSeq (eVar 2)) (gSet 4) tYesM (eCall 2 [] f_is_part (aCons (eVar 0) (aCons (eVar 4) aNil))) [4])) aNil)))) (sRaise "BadOrder") sNil)
    (sSeq (sSetC (lComp (iSeq (eVar 2)) (gSet 4) tYesM (e2 idxD (eVar 4) (eC (.int 0))) [4]) false 3)
    (sIf (tOf (e2 neB (eLenSet (eVar 3)) (eB lenD (aCons (eVar 3) aNil)))) (sRaise "BadOrder") sNil))))))
noncomputable def f_check_order : Fn := fn 2 5 m_check_order
noncomputable def p_check_order : Fn := fnP f_check_order
theorem ok_check_order {f : Addr} {fd : FuncData} (F : L2.Fun K "check_order" "check_order" st_check_order f fd) (b_all : mg "all" = none) (b_isinstance : mg "isinstance" = none) (b_len : mg "len" = none) (b_set : mg "set" = none) (b_tuple : mg "tuple" = none) (c_MOST_PARTS : Con K mg "MOST_PARTS" k_MOST_PARTS) (c_WAYS : Con K mg "WAYS" k_WAYS) (o_BadOrder : OwnExc K mg "BadOrder") (G_is_part : GFn P w K mg base "is_part" 3 2 [] f_is_part) (G_is_tuple : GFn P w K mg base "is_tuple" 1 2 [] f_is_tuple) : FnS P w K mg base 4 f fd ["columns", "order"] f_check_order :=
  fn_body F sc_check_order fun cdv A outer s H E hr =>
    have nd := sc_check_order.nd
    have tk := takes_of (X := cxOf (L2.CX P w) P w K mg base ["columns", "order", "parts", "names", "part"] "check_order" (defScope st_check_order) f cdv A outer s H E) (E := E) rfl rfl rfl rfl
    have po := passes_of (X := cxOf (L2.CX P w) P w K mg base ["columns", "order", "parts", "names", "part"] "check_order" (defScope st_check_order) f cdv A outer s H E) rfl
    (s_scons (s_if (PW.pt (s_or (s_not (s_test (s_call G_is_tuple hr tk (s_cons (s_var 1) (s_cons s_int s_nil))))) (s_or1 (s_tcmp (d_nin hr) (s_ix hr (s_var 1) s_int) (s_glob c_WAYS))))) (s_sone (s_raise (x := "BadOrder") o_BadOrder tk)) s_snil)
    (s_scons (s_set 2 (s_ix hr (s_var 1) s_int) nd)
    (s_scons (s_if (PW.pt (s_or (s_not (s_test (s_blt c_isi boot_isinstance (s_cons (s_var 2) (s_cons (s_bname boot_tuple b_tuple) s_nil)) b_isinstance))) (s_or1 (s_tcmp d_gt (s_blt c_len PySem.boot_len (s_cons (s_var 2) s_nil) b_len) (s_glob c_MOST_PARTS))))) (s_sone (s_raise (x := "BadOrder") o_BadOrder tk)) s_snil)
    (s_scons (s_if (s_not (s_test (s_blt (c_all rfl) (by decide +kernel) (s_cons (s_tree (s_comp rfl nd (s_iseq (s_var 2)) (blkOk_by (own := [("part", 4)]) (by show blkC N_check_order (defScope st_check_order) _ _ = true; decide +kernel)) (fun _ _ _ _ _ => (s_gname 4 nd)) (fun _ _ _ _ _ => s_tsno) (fun _ _ _ _ _ => (s_call G_is_part hr takes0 (s_cons (s_var 0) (s_cons (s_var 4) s_nil)))))) s_nil) b_all))) (s_sone (s_raise (x := "BadOrder") o_BadOrder tk)) s_snil)
    (s_scons (s_setComp 3 false rfl nd (s_iseq (s_var 2)) (blkOk_by (own := [("part", 4)]) (by show blkC N_check_order (defScope st_check_order) _ _ = true; decide +kernel)) (fun _ _ _ _ _ => (s_gname 4 nd)) (fun _ _ _ _ _ => s_tsno) (fun _ _ _ _ _ => (s_ix hr (s_var 4) s_int)))
    (s_sone (s_if (s_tcmp (d_ne hr) (s_lenSet (s_var 3) b_len b_set) (s_blt c_len PySem.boot_len (s_cons (s_var 3) s_nil) b_len)) (s_sone (s_raise (x := "BadOrder") o_BadOrder tk)) s_snil)))))))
abbrev st_check_place : Stmt := top 25
abbrev N_check_place : List Str := ["columns", "order", "place", "part", "value"]
theorem sc_check_place : FnScope ["columns", "order", "place", "part", "value"] ["columns", "order", "place"] (defScope st_check_place) := ⟨rfl, rfl, rfl, by decide +kernel, rfl, by decide +kernel, by decide +kernel⟩
noncomputable def m_check_place : MS := (sSeq (sIf (tOr2 (tNot1 (tOf (eCall 2 [] f_is_tuple (aCons (eVar 2) (aCons (eC (.int 2)) aNil))))) (tOr2 (tNot1 (tOf (eCall 2 [] f_is_tuple (aCons (e2 idxD (eVar 2) (eC (.int 0))) (aCons (eB lenD (aCons (e2 idxD (eVar 1) (eC (.int 0))) aNil)) aNil))))) (tNot1 (tOf (eCall 1 [] f_is_key (aCons (e2 idxD (eVar 2) (eC (.int 1))) aNil)))))) (sRaise "BadPlace") sNil)
    (sFor (iZipM (aCons (e2 idxD (eVar 1) (eC (.int 0))) (aCons (e2 idxD (eVar 2) (eC (.int 0))) aNil))) (gTupM [(gSet 3), (gSet 4)]) (sIf (tNot1 (tOf (eCall 2 [] f_is_value (aCons (eCall 2 [] f_kind_named (aCons (eVar 0) (aCons (e2 idxD (eVar 3) (eC (.int 0))) aNil))) (aCons (eVar 4) aNil))))) (sRaise "BadPlace") sNil)))
noncomputable def f_check_place : Fn := fn 3 5 m_check_place
noncomputable def p_check_place : Fn := fnP f_check_place
theorem ok_check_place {f : Addr} {fd : FuncData} (F : L2.Fun K "check_place" "check_place" st_check_place f fd) (b_len : mg "len" = none) (b_zip : mg "zip" = none) (o_BadPlace : OwnExc K mg "BadPlace") (G_is_key : GFn P w K mg base "is_key" 1 1 [] f_is_key) (G_is_tuple : GFn P w K mg base "is_tuple" 1 2 [] f_is_tuple) (G_is_value : GFn P w K mg base "is_value" 2 2 [] f_is_value) (G_kind_named : GFn P w K mg base "kind_named" 2 2 [] f_kind_named) : FnS P w K mg base 3 f fd ["columns", "order", "place"] f_check_place :=
  fn_body F sc_check_place fun cdv A outer s H E hr =>
    have nd := sc_check_place.nd
    have tk := takes_of (X := cxOf (L2.CX P w) P w K mg base ["columns", "order", "place", "part", "value"] "check_place" (defScope st_check_place) f cdv A outer s H E) (E := E) rfl rfl rfl rfl
    have po := passes_of (X := cxOf (L2.CX P w) P w K mg base ["columns", "order", "place", "part", "value"] "check_place" (defScope st_check_place) f cdv A outer s H E) rfl
    (s_scons (s_if (PW.pt (s_or (s_not (s_test (s_call G_is_tuple hr tk (s_cons (s_var 2) (s_cons s_int s_nil))))) (s_or (s_not (s_test (s_call G_is_tuple hr tk (s_cons (s_ix hr (s_var 2) s_int) (s_cons (s_blt c_len PySem.boot_len (s_cons (s_ix hr (s_var 1) s_int) s_nil) b_len) s_nil))))) (s_or1 (s_not (s_test (s_call G_is_key hr tk (s_cons (s_ix hr (s_var 2) s_int) s_nil)))))))) (s_sone (s_raise (x := "BadPlace") o_BadPlace tk)) s_snil)
    (s_sone (s_for po rfl (s_zip (s_cons (s_ix hr (s_var 1) s_int) (s_cons (s_ix hr (s_var 2) s_int) s_nil)) b_zip) (s_gtup rfl (s_gcons (s_gname 3 nd) (s_gcons (s_gname 4 nd) s_gnil))) (s_sone (s_if (s_not (s_test (s_call G_is_value hr tk (s_cons (s_call G_kind_named hr tk (s_cons (s_var 0) (s_cons (s_ix hr (s_var 3) s_int) s_nil))) (s_cons (s_var 4) s_nil))))) (s_sone (s_raise (x := "BadPlace") o_BadPlace tk)) s_snil)))))
abbrev st_check_gap : Stmt := top 26
abbrev N_check_gap : List Str := ["columns", "order", "gap"]
theorem sc_check_gap : FnScope ["columns", "order", "gap"] ["columns", "order", "gap"] (defScope st_check_gap) := ⟨rfl, rfl, rfl, by decide +kernel, rfl, by decide +kernel, by decide +kernel⟩
noncomputable def m_check_gap : MS := (sSeq (sIf (tOr2 (tNot1 (tOf (eCall 2 [] f_is_tuple (aCons (eVar 2) (aCons (eC (.int 2)) aNil))))) (tOf (e2 ninB (e2 idxD (eVar 2) (eC (.int 1))) (eC k_SIDES)))) (sRaise "BadPlace") sNil)
    (sExpr (eCall 3 [] f_check_place (aCons (eVar 0) (aCons (eVar 1) (aCons (e2 idxD (eVar 2) (eC (.int 0))) aNil))))))
noncomputable def f_check_gap : Fn := fn 3 3 m_check_gap
noncomputable def p_check_gap : Fn := fnP f_check_gap
theorem ok_check_gap {f : Addr} {fd : FuncData} (F : L2.Fun K "check_gap" "check_gap" st_check_gap f fd) (c_SIDES : Con K mg "SIDES" k_SIDES) (o_BadPlace : OwnExc K mg "BadPlace") (G_check_place : GFn P w K mg base "check_place" 3 3 [] f_check_place) (G_is_tuple : GFn P w K mg base "is_tuple" 1 2 [] f_is_tuple) : FnS P w K mg base 4 f fd ["columns", "order", "gap"] f_check_gap :=
  fn_body F sc_check_gap fun cdv A outer s H E hr =>
    have nd := sc_check_gap.nd
    have tk := takes_of (X := cxOf (L2.CX P w) P w K mg base ["columns", "order", "gap"] "check_gap" (defScope st_check_gap) f cdv A outer s H E) (E := E) rfl rfl rfl rfl
    have po := passes_of (X := cxOf (L2.CX P w) P w K mg base ["columns", "order", "gap"] "check_gap" (defScope st_check_gap) f cdv A outer s H E) rfl
    (s_scons (s_if (PW.pt (s_or (s_not (s_test (s_call G_is_tuple hr tk (s_cons (s_var 2) (s_cons s_int s_nil))))) (s_or1 (s_tcmp (d_nin hr) (s_ix hr (s_var 2) s_int) (s_glob c_SIDES))))) (s_sone (s_raise (x := "BadPlace") o_BadPlace tk)) s_snil)
    (s_sone (s_expr (s_call G_check_place hr tk (s_cons (s_var 0) (s_cons (s_var 1) (s_cons (s_ix hr (s_var 2) s_int) s_nil)))))))
abbrev st__law_cell_at : Stmt := top 28
abbrev N__law_cell_at : List Str := ["_law_script", "_law_k"]
theorem sc__law_cell_at : FnScope ["_law_script", "_law_k"] ["_law_script", "_law_k"] (defScope st__law_cell_at) := ⟨rfl, rfl, rfl, by decide +kernel, rfl, by decide +kernel, by decide +kernel⟩
noncomputable def m__law_cell_at : MS := (sSeq (sIf (tOf (e2 ltB (eVar 1) (eB lenD (aCons (eVar 0) aNil)))) (sRet (e2 idxD (eVar 0) (eVar 1))) sNil)
    (sRet (eC (.int 0))))
noncomputable def f__law_cell_at : Fn := fn 2 2 m__law_cell_at
noncomputable def p__law_cell_at : Fn := fnP f__law_cell_at
theorem ok__law_cell_at {f : Addr} {fd : FuncData} (F : L2.Fun K "_law_cell_at" "_law_cell_at" st__law_cell_at f fd) (b_len : mg "len" = none) : FnS P w K mg base 1 f fd ["_law_script", "_law_k"] f__law_cell_at :=
  fn_body F sc__law_cell_at fun cdv A outer s H E hr =>
    have nd := sc__law_cell_at.nd
    have tk := takes_of (X := cxOf (L2.CX P w) P w K mg base ["_law_script", "_law_k"] "_law_cell_at" (defScope st__law_cell_at) f cdv A outer s H E) (E := E) rfl rfl rfl rfl
    have po := passes_of (X := cxOf (L2.CX P w) P w K mg base ["_law_script", "_law_k"] "_law_cell_at" (defScope st__law_cell_at) f cdv A outer s H E) rfl
    (s_scons (s_if (s_tcmp d_lt (s_var 1) (s_blt c_len PySem.boot_len (s_cons (s_var 0) s_nil) b_len)) (s_sone (s_ret (s_ix hr (s_var 0) (s_var 1)))) s_snil)
    (s_sone (s_ret s_int)))
abbrev st__law_draws : Stmt := top 29
abbrev N__law_draws : List Str := ["_law_cell", "_law_many", "_law_found", "_law_rest", "_law_number", "_law_k"]
theorem sc__law_draws : FnScope ["_law_cell", "_law_many", "_law_found", "_law_rest", "_law_number", "_law_k"] ["_law_cell", "_law_many"] (defScope st__law_draws) := ⟨rfl, rfl, rfl, by decide +kernel, rfl, by decide +kernel, by decide +kernel⟩
noncomputable def m__law_draws : MS := (sSeq (sAsg (eCell (lLst aNil)) (gSet 2))
    (sSeq (sAsg (eC (.int 0)) (gSet 3))
    (sSeq (sIf (tOf (e2 geB (eVar 0) (e2 powD (eC (.int 10)) (eC (.int 30))))) (sAsg (e2 subD (eVar 0) (e2 powD (eC (.int 10)) (eC (.int 30)))) (gSet 3)) sNil)
    (sSeq (sWhile (tAnd2 (tOf (e2 gtB (eVar 3) (eC (.int 1)))) (tOf (e2 ltB (eB lenD (aCons (eVar 2) aNil)) (eVar 1)))) (sSeq (sExpr (eM "list" appendD (eVar 2) (aCons (e2 modD (eVar 3) (e2 powD (eC (.int 10)) (eC (.int 15)))) aNil)))
    (sAsg (e2 fdivD (eVar 3) (e2 powD (eC (.int 10)) (eC (.int 15)))) (gSet 3))))
    (sSeq (sAsg (e2 addD (e2 modD (eVar 0) (e2 addD (e2 powD (eC (.int 10)) (eC (.int 18))) (eC (.int 9)))) (eC (.int 48271))) (gSet 4))
    (sSeq (sFor (iRange1 (e2 addD (eVar 1) (eC (.int 3)))) (gSet 5) (sSeq (sAsg (e2 modD (e2 addD (e2 addD (e2 mulD (eVar 4) (eVar 4)) (e2 mulD (eC (.int 48271)) (eVar 4))) (eVar 5)) (e2 addD (e2 powD (eC (.int 10)) (eC (.int 18))) (eC (.int 9)))) (gSet 4))
    (sIf (tOf (e2 gtB (eVar 5) (eC (.int 2)))) (sExpr (eM "list" appendD (eVar 2) (aCons (e2 modD (e2 mulD (eVar 4) (e2 addD (e2 fdivD (eVar 4) (eC (.int 1009))) (eC (.int 69621)))) (e2 addD (e2 powD (eC (.int 10)) (eC (.int 18))) (eC (.int 9)))) aNil))) sNil)))
    (sRet (eCell (lSl (eVar 2) oNo (oYes (eVar 1)))))))))))
noncomputable def f__law_draws : Fn := fn 2 6 m__law_draws
noncomputable def p__law_draws : Fn := fnP f__law_draws
theorem ok__law_draws {f : Addr} {fd : FuncData} (F : L2.Fun K "_law_draws" "_law_draws" st__law_draws f fd) (b_len : mg "len" = none) (b_range : mg "range" = none) : FnS P w K mg base 1 f fd ["_law_cell", "_law_many"] f__law_draws :=
  fn_body F sc__law_draws fun cdv A outer s H E hr =>
    have nd := sc__law_draws.nd
    have tk := takes_of (X := cxOf (L2.CX P w) P w K mg base ["_law_cell", "_law_many", "_law_found", "_law_rest", "_law_number", "_law_k"] "_law_draws" (defScope st__law_draws) f cdv A outer s H E) (E := E) rfl rfl rfl rfl
    have po := passes_of (X := cxOf (L2.CX P w) P w K mg base ["_law_cell", "_law_many", "_law_found", "_law_rest", "_law_number", "_law_k"] "_law_draws" (defScope st__law_draws) f cdv A outer s H E) rfl
    (s_scons (s_set 2 (s_cell (s_lst s_nil)) nd)
    (s_scons (s_set 3 s_int nd)
    (s_scons (s_if (s_tcmp d_ge (s_var 0) (s_op d_pow s_int s_int)) (s_sone (s_set 3 (s_op d_sub (s_var 0) (s_op d_pow s_int s_int)) nd)) s_snil)
    (s_scons (s_while po (PW.pt (s_and (s_tcmp d_gt (s_var 3) s_int) (s_and1 (s_tcmp d_lt (s_blt c_len PySem.boot_len (s_cons (s_var 2) s_nil) b_len) (s_var 1))))) (s_scons (s_expr (s_append (s_var 2) (s_cons (s_op d_mod (s_var 3) (s_op d_pow s_int s_int)) s_nil)))
    (s_sone (s_set 3 (s_op d_fdiv (s_var 3) (s_op d_pow s_int s_int)) nd))))
    (s_scons (s_set 4 (s_op d_add (s_op d_mod (s_var 0) (s_op d_add (s_op d_pow s_int s_int) s_int)) s_int) nd)
    (s_scons (s_for po rfl (s_range1 (s_op d_add (s_var 1) s_int) b_range) (s_gname 5 nd) (s_scons (s_set 4 (s_op d_mod (s_op d_add (s_op d_add (s_op d_mul (s_var 4) (s_var 4)) (s_op d_mul s_int (s_var 4))) (s_var 5)) (s_op d_add (s_op d_pow s_int s_int) s_int)) nd)
    (s_sone (s_if (s_tcmp d_gt (s_var 5) s_int) (s_sone (s_expr (s_append (s_var 2) (s_cons (s_op d_mod (s_op d_mul (s_var 4) (s_op d_add (s_op d_fdiv (s_var 4) s_int) s_int)) (s_op d_add (s_op d_pow s_int s_int) s_int)) s_nil)))) s_snil))))
    (s_sone (s_ret (s_cell (s_lsl (s_var 2) s_ono (s_oyes (s_var 1))))))))))))
abbrev st__law_columns : Stmt := top 30
abbrev N__law_columns : List Str := ["_law_cell", "_law_xs", "_law_names", "_law_many", "_law_found", "_law_k"]
theorem sc__law_columns : FnScope ["_law_cell", "_law_xs", "_law_names", "_law_many", "_law_found", "_law_k"] ["_law_cell"] (defScope st__law_columns) := ⟨rfl, rfl, rfl, by decide +kernel, rfl, by decide +kernel, by decide +kernel⟩
noncomputable def m__law_columns : MS := (sSeq (sAsg (eCall 2 [] f__law_draws (aCons (eVar 0) (aCons (eC (.int 3)) aNil))) (gSet 1))
    (sSeq (sAsg (eTree (lLst (aCons (eC (.str "key")) (aCons (eC (.str "a")) (aCons (eC (.str "ab")) (aCons (eC (.str "at")) (aCons (eC (.str "up")) (aCons (eC (.str "mark")) (aCons (eC (.str "b")) (aCons (eC (.str "price")) aNil)))))))))) (gSet 2))
    (sSeq (sAsg (e2 idxD (eTree (lLst (aCons (eC (.int 1)) (aCons (eC (.int 2)) (aCons (eC (.int 3)) (aCons (eC (.int 0)) (aCons (eC (.int 2)) (aCons (eC (.int 1)) (aCons (eC (.int 8)) (aCons (eC (.int 3)) aNil)))))))))) (e2 modD (e2 idxD (eVar 1) (eC (.int 0))) (eC (.int 8)))) (gSet 3))
    (sSeq (sAsg (eCell (lLst aNil)) (gSet 4))
    (sSeq (sFor (iRange1 (eVar 3)) (gSet 5) (sSeq (sExpr (eM "list" appendD (eVar 4) (aCons (eTup (aCons (e2 idxD (eVar 2) (e2 modD (e2 addD (e2 idxD (eVar 1) (eC (.int 1))) (e2 mulD (eC (.int 3)) (eVar 5))) (eC (.int 8)))) (aCons (e2 idxD (eTree (lLst (aCons (eC (.str "number")) (aCons (eC (.str "word")) aNil)))) (e2 modD (e2 idxD (eVar 1) (eC (.int 2))) (eC (.int 2)))) aNil))) aNil)))
    (sSetAt (e2 fdivD (e2 idxD (eVar 1) (eC (.int 2))) (eC (.int 2))) (eVar 1) (eC (.int 2)))))
    (sRet (eB tupleD (aCons (eVar 4) aNil))))))))
noncomputable def f__law_columns : Fn := fn 1 6 m__law_columns
noncomputable def p__law_columns : Fn := fnP f__law_columns
theorem ok__law_columns {f : Addr} {fd : FuncData} (F : L2.Fun K "_law_columns" "_law_columns" st__law_columns f fd) (b_range : mg "range" = none) (b_tuple : mg "tuple" = none) (G__law_draws : GFn P w K mg base "_law_draws" 1 2 [] f__law_draws) : FnS P w K mg base 2 f fd ["_law_cell"] f__law_columns :=
  fn_body F sc__law_columns fun cdv A outer s H E hr =>
    have nd := sc__law_columns.nd
    have tk := takes_of (X := cxOf (L2.CX P w) P w K mg base ["_law_cell", "_law_xs", "_law_names", "_law_many", "_law_found", "_law_k"] "_law_columns" (defScope st__law_columns) f cdv A outer s H E) (E := E) rfl rfl rfl rfl
    have po := passes_of (X := cxOf (L2.CX P w) P w K mg base ["_law_cell", "_law_xs", "_law_names", "_law_many", "_law_found", "_law_k"] "_law_columns" (defScope st__law_columns) f cdv A outer s H E) rfl
    (s_scons (s_set 1 (s_call G__law_draws hr tk (s_cons (s_var 0) (s_cons s_int s_nil))) nd)
    (s_scons (s_set 2 (s_tree (s_lst (s_cons s_str (s_cons s_str (s_cons s_str (s_cons s_str (s_cons s_str (s_cons s_str (s_cons s_str (s_cons s_str s_nil)))))))))) nd)
    (s_scons (s_set 3 (s_ix hr (s_tree (s_lst (s_cons s_int (s_cons s_int (s_cons s_int (s_cons s_int (s_cons s_int (s_cons s_int (s_cons s_int (s_cons s_int s_nil)))))))))) (s_op d_mod (s_ix hr (s_var 1) s_int) s_int)) nd)
    (s_scons (s_set 4 (s_cell (s_lst s_nil)) nd)
    (s_scons (s_for po rfl (s_range1 (s_var 3) b_range) (s_gname 5 nd) (s_scons (s_expr (s_append (s_var 4) (s_cons (s_tup (s_cons (s_ix hr (s_var 2) (s_op d_mod (s_op d_add (s_ix hr (s_var 1) s_int) (s_op d_mul s_int (s_var 5))) s_int)) (s_cons (s_ix hr (s_tree (s_lst (s_cons s_str (s_cons s_str s_nil)))) (s_op d_mod (s_ix hr (s_var 1) s_int) s_int)) s_nil))) s_nil)))
    (s_sone (s_setAt hr (s_op d_fdiv (s_ix hr (s_var 1) s_int) s_int) (s_var 1) s_int))))
    (s_sone (s_ret (s_bty c_tuple boot_tuple (s_cons (s_var 4) s_nil) b_tuple))))))))
abbrev st__law_value : Stmt := top 31
abbrev N__law_value : List Str := ["_law_kind", "_law_x", "_law_great"]
theorem sc__law_value : FnScope ["_law_kind", "_law_x", "_law_great"] ["_law_kind", "_law_x"] (defScope st__law_value) := ⟨rfl, rfl, rfl, by decide +kernel, rfl, by decide +kernel, by decide +kernel⟩
noncomputable def m__law_value : MS := (sSeq (sIf (tOf (e2 eqB (e2 modD (eVar 1) (eC (.int 5))) (eC (.int 4)))) (sRet (eC .non)) sNil)
    (sSeq (sIf (tOf (e2 eqB (eVar 0) (eC (.str "number")))) (sSeq (sAsg (e2 mulD (e2 modD (e2 fdivD (eVar 1) (eC (.int 40))) (e2 powD (eC (.int 10)) (eC (.int 15)))) (e2 powD (eC (.int 10)) (eC (.int 44)))) (gSet 2))
    (sRet (e2 idxD (eTree (lLst (aCons (eC (.int 0)) (aCons (eC (.int 1)) (aCons (eC (.int 2)) (aCons (eC (.int 10)) (aCons (eNeg (eC (.int 1))) (aCons (eNeg (eC (.int 2))) (aCons (eVar 2) (aCons (e2 subD (eC (.int 0)) (eVar 2)) aNil)))))))))) (e2 modD (e2 fdivD (eVar 1) (eC (.int 5))) (eC (.int 8)))))) sNil)
    (sRet (e2 idxD (eTree (lLst (aCons (eC (.str "")) (aCons (eC (.str "a")) (aCons (eC (.str "ab")) (aCons (eC (.str "b")) (aCons (eC (.str "a b")) (aCons (eC (.str "B")) (aCons (eC (.str "~")) (aCons (eC (.str "=b")) aNil)))))))))) (e2 modD (e2 fdivD (eVar 1) (eC (.int 5))) (eC (.int 8)))))))
noncomputable def f__law_value : Fn := fn 2 3 m__law_value
noncomputable def p__law_value : Fn := fnP f__law_value
theorem ok__law_value {f : Addr} {fd : FuncData} (F : L2.Fun K "_law_value" "_law_value" st__law_value f fd) : FnS P w K mg base 1 f fd ["_law_kind", "_law_x"] f__law_value :=
  fn_body F sc__law_value fun cdv A outer s H E hr =>
    have nd := sc__law_value.nd
    have tk := takes_of (X := cxOf (L2.CX P w) P w K mg base ["_law_kind", "_law_x", "_law_great"] "_law_value" (defScope st__law_value) f cdv A outer s H E) (E := E) rfl rfl rfl rfl
    have po := passes_of (X := cxOf (L2.CX P w) P w K mg base ["_law_kind", "_law_x", "_law_great"] "_law_value" (defScope st__law_value) f cdv A outer s H E) rfl
    (s_scons (s_if (s_tcmp (d_eq hr) (s_op d_mod (s_var 1) s_int) s_int) (s_sone (s_ret s_non)) s_snil)
    (s_scons (s_if (s_tcmp (d_eq hr) (s_var 0) s_str) (s_scons (s_set 2 (s_op d_mul (s_op d_mod (s_op d_fdiv (s_var 1) s_int) (s_op d_pow s_int s_int)) (s_op d_pow s_int s_int)) nd)
    (s_sone (s_ret (s_ix hr (s_tree (s_lst (s_cons s_int (s_cons s_int (s_cons s_int (s_cons s_int (s_cons (s_neg s_int) (s_cons (s_neg s_int) (s_cons (s_var 2) (s_cons (s_op d_sub s_int (s_var 2)) s_nil)))))))))) (s_op d_mod (s_op d_fdiv (s_var 1) s_int) s_int))))) s_snil)
    (s_sone (s_ret (s_ix hr (s_tree (s_lst (s_cons s_str (s_cons s_str (s_cons s_str (s_cons s_str (s_cons s_str (s_cons s_str (s_cons s_str (s_cons s_str s_nil)))))))))) (s_op d_mod (s_op d_fdiv (s_var 1) s_int) s_int))))))
abbrev st__law_key : Stmt := top 32
abbrev N__law_key : List Str := ["_law_x", "_law_word"]
theorem sc__law_key : FnScope ["_law_x", "_law_word"] ["_law_x"] (defScope st__law_key) := ⟨rfl, rfl, rfl, by decide +kernel, rfl, by decide +kernel, by decide +kernel⟩
noncomputable def m__law_key : MS := (sSeq (sAsg (e2 idxD (eTree (lLst (aCons (eC (.str "a")) (aCons (eC (.str "ab")) (aCons (eC (.str "b")) (aCons (eC (.str "abc")) (aCons (eC (.str "z")) (aCons (eC (.str "a1")) (aCons (eC (.str "b22")) (aCons (eC (.str "aa")) (aCons (eC (.str "m")) (aCons (eC (.str "m0")) (aCons (eC (.str "ba")) (aCons (eC (.str "zzzzzzzzz")) aNil)))))))))))))) (e2 modD (eVar 0) (eC (.int 12)))) (gSet 1))
    (sRet (e2 addD (eVar 1) (e2 idxD (eTree (lLst (aCons (eC (.str "")) (aCons (eC (.str "")) (aCons (eC (.str "")) (aCons (eC (.str "")) (aCons (eC (.str "0")) (aCons (eC (.str "b7")) (aCons (eC (.str "zz")) (aCons (eC (.str "9")) aNil)))))))))) (e2 modD (e2 fdivD (eVar 0) (eC (.int 12))) (eC (.int 8)))))))
noncomputable def f__law_key : Fn := fn 1 2 m__law_key
noncomputable def p__law_key : Fn := fnP f__law_key
theorem ok__law_key {f : Addr} {fd : FuncData} (F : L2.Fun K "_law_key" "_law_key" st__law_key f fd) : FnS P w K mg base 1 f fd ["_law_x"] f__law_key :=
  fn_body F sc__law_key fun cdv A outer s H E hr =>
    have nd := sc__law_key.nd
    have tk := takes_of (X := cxOf (L2.CX P w) P w K mg base ["_law_x", "_law_word"] "_law_key" (defScope st__law_key) f cdv A outer s H E) (E := E) rfl rfl rfl rfl
    have po := passes_of (X := cxOf (L2.CX P w) P w K mg base ["_law_x", "_law_word"] "_law_key" (defScope st__law_key) f cdv A outer s H E) rfl
    (s_scons (s_set 1 (s_ix hr (s_tree (s_lst (s_cons s_str (s_cons s_str (s_cons s_str (s_cons s_str (s_cons s_str (s_cons s_str (s_cons s_str (s_cons s_str (s_cons s_str (s_cons s_str (s_cons s_str (s_cons s_str s_nil)))))))))))))) (s_op d_mod (s_var 0) s_int)) nd)
    (s_sone (s_ret (s_op d_add (s_var 1) (s_ix hr (s_tree (s_lst (s_cons s_str (s_cons s_str (s_cons s_str (s_cons s_str (s_cons s_str (s_cons s_str (s_cons s_str (s_cons s_str s_nil)))))))))) (s_op d_mod (s_op d_fdiv (s_var 0) s_int) s_int))))))
abbrev st__law_order : Stmt := top 33
abbrev N__law_order : List Str := ["_law_columns_here", "_law_cell", "_law_xs", "_law_many", "_law_parts", "_law_k", "_law_name"]
theorem sc__law_order : FnScope ["_law_columns_here", "_law_cell", "_law_xs", "_law_many", "_law_parts", "_law_k", "_law_name"] ["_law_columns_here", "_law_cell"] (defScope st__law_order) := ⟨rfl, rfl, rfl, by decide +kernel, rfl, by decide +kernel, by decide +kernel⟩
noncomputable def m__law_order : MS := (sSeq (sAsg (eCall 2 [] p__law_draws (aCons (eVar 1) (aCons (eC (.int 12)) aNil))) (gSet 2))
    (sSeq (sAsg (eB minD (aCons (eB lenD (aCons (eVar 0) aNil)) (aCons (e2 idxD (eTree (lLst (aCons (eC (.int 1)) (aCons (eC (.int 2)) (aCons (eC (.int 0)) (aCons (eC (.int 3)) (aCons (eC (.int 1)) (aCons (eC (.int 2)) (aCons (eC (.int 8)) (aCons (eC (.int 3)) aNil)))))))))) (e2 modD (e2 idxD (eVar 2) (eC (.int 0))) (eC (.int 8)))) aNil))) (gSet 3))
    (sSeq (sAsg (eCell (lLst aNil)) (gSet 4))
    (sSeq (sFor (iRange1 (eVar 3)) (gSet 5) (sSeq (sAsg (e2 idxD (e2 idxD (eVar 0) (e2 modD (e2 addD (e2 idxD (eVar 2) (eC (.int 1))) (eVar 5)) (eB lenD (aCons (eVar 0) aNil)))) (eC (.int 0))) (gSet 6))
    (sExpr (eM "list" appendD (eVar 4) (aCons (eTup (aCons (eVar 6) (aCons (e2 idxD (eTree (lLst (aCons (eC (.str "up")) (aCons (eC (.str "down")) aNil)))) (e2 modD (e2 idxD (eVar 2) (e2 addD (eC (.int 2)) (eVar 5))) (eC (.int 2)))) (aCons (e2 idxD (eTree (lLst (aCons (eC (.str "first")) (aCons (eC (.str "last")) aNil)))) (e2 modD (e2 fdivD (e2 idxD (eVar 2) (e2 addD (eC (.int 2)) (eVar 5))) (eC (.int 2))) (eC (.int 2)))) aNil)))) aNil)))))
    (sRet (eTup (aCons (eB tupleD (aCons (eVar 4) aNil)) (aCons (e2 idxD (eTree (lLst (aCons (eC (.str "up")) (aCons (eC (.str "down")) aNil)))) (e2 modD (e2 idxD (eVar 2) (eC (.int 11))) (eC (.int 2)))) aNil))))))))
noncomputable def f__law_order : Fn := fn 2 7 m__law_order
noncomputable def p__law_order : Fn := fnP f__law_order
theorem ok__law_order {f : Addr} {fd : FuncData} (F : L2.Fun K "_law_order" "_law_order" st__law_order f fd) (b_len : mg "len" = none) (b_min : mg "min" = none) (b_range : mg "range" = none) (b_tuple : mg "tuple" = none) (G__law_draws : GFn P w K mg base "_law_draws" 1 2 [] f__law_draws) : FnS P w K mg base 2 f fd ["_law_columns_here", "_law_cell"] f__law_order :=
  fn_body F sc__law_order fun cdv A outer s H E hr =>
    have nd := sc__law_order.nd
    have tk := takes_of (X := cxOf (L2.CX P w) P w K mg base ["_law_columns_here", "_law_cell", "_law_xs", "_law_many", "_law_parts", "_law_k", "_law_name"] "_law_order" (defScope st__law_order) f cdv A outer s H E) (E := E) rfl rfl rfl rfl
    have po := passes_of (X := cxOf (L2.CX P w) P w K mg base ["_law_columns_here", "_law_cell", "_law_xs", "_law_many", "_law_parts", "_law_k", "_law_name"] "_law_order" (defScope st__law_order) f cdv A outer s H E) rfl
    (s_scons (s_set 2 (s_call G__law_draws.pure hr tk (s_cons (s_var 1) (s_cons s_int s_nil))) nd)
    (s_scons (s_set 3 (s_blt (c_min rfl) (by decide +kernel) (s_cons (s_blt c_len PySem.boot_len (s_cons (s_var 0) s_nil) b_len) (s_cons (s_ix hr (s_tree (s_lst (s_cons s_int (s_cons s_int (s_cons s_int (s_cons s_int (s_cons s_int (s_cons s_int (s_cons s_int (s_cons s_int s_nil)))))))))) (s_op d_mod (s_ix hr (s_var 2) s_int) s_int)) s_nil)) b_min) nd)
    (s_scons (s_set 4 (s_cell (s_lst s_nil)) nd)
    (s_scons (s_for po rfl (s_range1 (s_var 3) b_range) (s_gname 5 nd) (s_scons (s_set 6 (s_ix hr (s_ix hr (s_var 0) (s_op d_mod (s_op d_add (s_ix hr (s_var 2) s_int) (s_var 5)) (s_blt c_len PySem.boot_len (s_cons (s_var 0) s_nil) b_len))) s_int) nd)
    (s_sone (s_expr (s_append (s_var 4) (s_cons (s_tup (s_cons (s_var 6) (s_cons (s_ix hr (s_tree (s_lst (s_cons s_str (s_cons s_str s_nil)))) (s_op d_mod (s_ix hr (s_var 2) (s_op d_add s_int (s_var 5))) s_int)) (s_cons (s_ix hr (s_tree (s_lst (s_cons s_str (s_cons s_str s_nil)))) (s_op d_mod (s_op d_fdiv (s_ix hr (s_var 2) (s_op d_add s_int (s_var 5))) s_int) s_int)) s_nil)))) s_nil))))))
    (s_sone (s_ret (s_tup (s_cons (s_bty c_tuple boot_tuple (s_cons (s_var 4) s_nil) b_tuple) (s_cons (s_ix hr (s_tree (s_lst (s_cons s_str (s_cons s_str s_nil)))) (s_op d_mod (s_ix hr (s_var 2) s_int) s_int)) s_nil)))))))))
abbrev st__law_gap : Stmt := top 34
abbrev N__law_gap : List Str := ["_law_columns_here", "_law_order_here", "_law_cell", "_law_xs", "_law_kinds", "_law_values", "_law_k"]
theorem sc__law_gap : FnScope ["_law_columns_here", "_law_order_here", "_law_cell", "_law_xs", "_law_kinds", "_law_values", "_law_k"] ["_law_columns_here", "_law_order_here", "_law_cell"] (defScope st__law_gap) := ⟨rfl, rfl, rfl, by decide +kernel, rfl, by decide +kernel, by decide +kernel⟩
noncomputable def m__law_gap : MS := (sSeq (sAsg (eCall 2 [] p__law_draws (aCons (eVar 2) (aCons (eC (.int 10)) aNil))) (gSet 3))
    (sSeq (sAsg (eDictOf (aCons (eVar 0) aNil)) (gSet 4))
    (sSeq (sSetC (lComp (iRange1 (eB lenD (aCons (e2 idxD (eVar 1) (eC (.int 0))) aNil))) (gSet 6) tYesM (eCall 2 [] f__law_value (aCons (e2 idxD (eVar 4) (e2 idxD (e2 idxD (e2 idxD (eVar 1) (eC (.int 0))) (eVar 6)) (eC (.int 0)))) (aCons (e2 idxD (eVar 3) (e2 addD (eC (.int 2)) (eVar 6))) aNil))) [6]) false 5)
    (sRet (eTup (aCons (eTup (aCons (eB tupleD (aCons (eVar 5) aNil)) (aCons (eCall 1 [] f__law_key (aCons (e2 idxD (eVar 3) (eC (.int 0))) aNil)) aNil))) (aCons (e2 idxD (eTree (lLst (aCons (eC (.str "ahead")) (aCons (eC (.str "behind")) aNil)))) (e2 modD (e2 idxD (eVar 3) (eC (.int 1))) (eC (.int 2)))) aNil)))))))
noncomputable def f__law_gap : Fn := fn 3 7 m__law_gap
noncomputable def p__law_gap : Fn := fnP f__law_gap
theorem ok__law_gap {f : Addr} {fd : FuncData} (F : L2.Fun K "_law_gap" "_law_gap" st__law_gap f fd) (b_dict : mg "dict" = none) (b_len : mg "len" = none) (b_range : mg "range" = none) (b_tuple : mg "tuple" = none) (G__law_draws : GFn P w K mg base "_law_draws" 1 2 [] f__law_draws) (G__law_key : GFn P w K mg base "_law_key" 1 1 [] f__law_key) (G__law_value : GFn P w K mg base "_law_value" 1 2 [] f__law_value) : FnS P w K mg base 2 f fd ["_law_columns_here", "_law_order_here", "_law_cell"] f__law_gap :=
  fn_body F sc__law_gap fun cdv A outer s H E hr =>
    have nd := sc__law_gap.nd
    have tk := takes_of (X := cxOf (L2.CX P w) P w K mg base ["_law_columns_here", "_law_order_here", "_law_cell", "_law_xs", "_law_kinds", "_law_values", "_law_k"] "_law_gap" (defScope st__law_gap) f cdv A outer s H E) (E := E) rfl rfl rfl rfl
    have po := passes_of (X := cxOf (L2.CX P w) P w K mg base ["_law_columns_here", "_law_order_here", "_law_cell", "_law_xs", "_law_kinds", "_law_values", "_law_k"] "_law_gap" (defScope st__law_gap) f cdv A outer s H E) rfl
    (s_scons (s_set 3 (s_call G__law_draws.pure hr tk (s_cons (s_var 2) (s_cons s_int s_nil))) nd)
    (s_scons (s_set 4 (s_dictOf (s_cons (s_var 0) s_nil) b_dict) nd)
    (s_scons (s_setComp 5 false rfl nd (s_range1 (s_blt c_len PySem.boot_len (s_cons (s_ix hr (s_var 1) s_int) s_nil) b_len) b_range) (blkOk_by (own := [("_law_k", 6)]) (by show blkC N__law_gap (defScope st__law_gap) _ _ = true; decide +kernel)) (fun _ _ _ _ _ => (s_gname 6 nd)) (fun _ _ _ _ _ => s_tsno) (fun _ _ _ _ _ => (s_call G__law_value hr takes0 (s_cons (s_ix hr (s_var 4) (s_ix hr (s_ix hr (s_ix hr (s_var 1) s_int) (s_var 6)) s_int)) (s_cons (s_ix hr (s_var 3) (s_op d_add s_int (s_var 6))) s_nil)))))
    (s_sone (s_ret (s_tup (s_cons (s_tup (s_cons (s_bty c_tuple boot_tuple (s_cons (s_var 5) s_nil) b_tuple) (s_cons (s_call G__law_key hr tk (s_cons (s_ix hr (s_var 3) s_int) s_nil)) s_nil))) (s_cons (s_ix hr (s_tree (s_lst (s_cons s_str (s_cons s_str s_nil)))) (s_op d_mod (s_ix hr (s_var 3) s_int) s_int)) s_nil))))))))
abbrev st__law_refused : Stmt := top 35
abbrev N__law_refused : List Str := ["_law_columns_here", "_law_order_here", "_law_gap_here", "_law_way", "_law_found", "e"]
theorem sc__law_refused : FnScope ["_law_columns_here", "_law_order_here", "_law_gap_here", "_law_way", "_law_found", "e"] ["_law_columns_here", "_law_order_here", "_law_gap_here", "_law_way"] (defScope st__law_refused) := ⟨rfl, rfl, rfl, by decide +kernel, rfl, by decide +kernel, by decide +kernel⟩
noncomputable def m__law_refused : MS := (sSeq (sAsg (eTree (lLst aNil)) (gSet 4))
    (sSeq (sTryAs (sIf (tOf (e2 eqB (eVar 3) (eC (.int 0)))) (sExpr (eCall 2 [] f_check_order (aCons (eVar 0) (aCons (eVar 1) aNil)))) (sIf (tOf (e2 eqB (eVar 3) (eC (.int 1)))) (sExpr (eCall 3 [] f_check_place (aCons (eVar 0) (aCons (eVar 1) (aCons (eVar 2) aNil))))) (sExpr (eCall 3 [] f_check_gap (aCons (eVar 0) (aCons (eVar 1) (aCons (eVar 2) aNil))))))) tb_PageError 5 (fun a c0 => (sAsg (eTree (lLst (aCons (eB (isED a c0 ktA) (aCons (eVar 5) (aCons (eC (.glo "BadOrder")) aNil))) (aCons (eB (isED a c0 ktA) (aCons (eVar 5) (aCons (eC (.glo "BadPlace")) aNil))) (aCons (eB (isED a c0 ktA) (aCons (eVar 5) (aCons (eC (.glo "BadSieve")) aNil))) (aCons (eB (isED a c0 ktA) (aCons (eVar 5) (aCons (eC (.glo "BadColumns")) aNil))) aNil)))))) (gSet 4))))
    (sRet (eVar 4))))
noncomputable def f__law_refused : Fn := fn 4 6 m__law_refused
noncomputable def p__law_refused : Fn := fnP f__law_refused
theorem ok__law_refused {f : Addr} {fd : FuncData} (F : L2.Fun K "_law_refused" "_law_refused" st__law_refused f fd) (b_isinstance : mg "isinstance" = none) (o_PageError : OwnExc K mg "PageError") (g_BadColumns : mg (Str.ofString "BadColumns") = some (.ref (He.ga K (Str.ofString "BadColumns")))) (g_BadOrder : mg (Str.ofString "BadOrder") = some (.ref (He.ga K (Str.ofString "BadOrder")))) (g_BadPlace : mg (Str.ofString "BadPlace") = some (.ref (He.ga K (Str.ofString "BadPlace")))) (g_BadSieve : mg (Str.ofString "BadSieve") = some (.ref (He.ga K (Str.ofString "BadSieve")))) (x_PageError : ∀ p ∈ tb_PageError, PySem.W.exmOne K (exV K p.1) (exV K "PageError") = some p.2) (kin : Kin K excs ktA) (G_check_gap : GFn P w K mg base "check_gap" 4 3 [] f_check_gap) (G_check_order : GFn P w K mg base "check_order" 4 2 [] f_check_order) (G_check_place : GFn P w K mg base "check_place" 3 3 [] f_check_place) : FnS P w K mg base 5 f fd ["_law_columns_here", "_law_order_here", "_law_gap_here", "_law_way"] f__law_refused :=
  fn_body F sc__law_refused fun cdv A outer s H E hr =>
    have nd := sc__law_refused.nd
    have tk := takes_of (X := cxOf (L2.CX P w) P w K mg base ["_law_columns_here", "_law_order_here", "_law_gap_here", "_law_way", "_law_found", "e"] "_law_refused" (defScope st__law_refused) f cdv A outer s H E) (E := E) rfl rfl rfl rfl
    have po := passes_of (X := cxOf (L2.CX P w) P w K mg base ["_law_columns_here", "_law_order_here", "_law_gap_here", "_law_way", "_law_found", "e"] "_law_refused" (defScope st__law_refused) f cdv A outer s H E) rfl
    (s_scons (s_set 4 (s_tree (s_lst s_nil)) nd)
    (s_scons (s_tryAs (x := "PageError") (tb := tb_PageError) (su := fun a c0 => (sAsg (eTree (lLst (aCons (eB (isED a c0 ktA) (aCons (eVar 5) (aCons (eC (.glo "BadOrder")) aNil))) (aCons (eB (isED a c0 ktA) (aCons (eVar 5) (aCons (eC (.glo "BadPlace")) aNil))) (aCons (eB (isED a c0 ktA) (aCons (eVar 5) (aCons (eC (.glo "BadSieve")) aNil))) (aCons (eB (isED a c0 ktA) (aCons (eVar 5) (aCons (eC (.glo "BadColumns")) aNil))) aNil)))))) (gSet 4))) 5 nd o_PageError.m tk x_PageError (fun W pn xe tk po => (s_sone (s_if (s_tcmp (d_eq hr) (s_var 3) s_int) (s_sone (s_expr (s_call G_check_order hr tk (s_cons (s_var 0) (s_cons (s_var 1) s_nil))))) (s_sone (s_if (s_tcmp (d_eq hr) (s_var 3) s_int) (s_sone (s_expr (s_call G_check_place hr tk (s_cons (s_var 0) (s_cons (s_var 1) (s_cons (s_var 2) s_nil)))))) (s_sone (s_expr (s_call G_check_gap hr tk (s_cons (s_var 0) (s_cons (s_var 1) (s_cons (s_var 2) s_nil))))))))))) (fun a oe c0 pn hc hz hv => (s_sone (s_set 4 (s_tree (s_lst (s_cons (s_blt (c_isE (kin.nb _ hc) (kin.xc _ hc) hz hv kin.kt) boot_isinstance (s_cons (s_var 5) (s_cons (s_gname_c (x := "BadOrder") g_BadOrder) s_nil)) b_isinstance) (s_cons (s_blt (c_isE (kin.nb _ hc) (kin.xc _ hc) hz hv kin.kt) boot_isinstance (s_cons (s_var 5) (s_cons (s_gname_c (x := "BadPlace") g_BadPlace) s_nil)) b_isinstance) (s_cons (s_blt (c_isE (kin.nb _ hc) (kin.xc _ hc) hz hv kin.kt) boot_isinstance (s_cons (s_var 5) (s_cons (s_gname_c (x := "BadSieve") g_BadSieve) s_nil)) b_isinstance) (s_cons (s_blt (c_isE (kin.nb _ hc) (kin.xc _ hc) hz hv kin.kt) boot_isinstance (s_cons (s_var 5) (s_cons (s_gname_c (x := "BadColumns") g_BadColumns) s_nil)) b_isinstance) s_nil)))))) nd))))
    (s_sone (s_ret (s_var 4)))))
abbrev st__law_bad_order : Stmt := top 36
abbrev N__law_bad_order : List Str := ["_law_columns_here", "_law_order_here", "_law_xs", "_law_parts", "_law_way", "_law_some", "_law_at", "_law_name", "_law_turn", "_law_end", "_law_odd", "_law_one"]
theorem sc__law_bad_order : FnScope ["_law_columns_here", "_law_order_here", "_law_xs", "_law_parts", "_law_way", "_law_some", "_law_at", "_law_name", "_law_turn", "_law_end", "_law_odd", "_law_one"] ["_law_columns_here", "_law_order_here", "_law_xs"] (defScope st__law_bad_order) := ⟨rfl, rfl, rfl, by decide +kernel, rfl, by decide +kernel, by decide +kernel⟩
noncomputable def m__law_bad_order : MS := (sSeq (sAsg (eVar 1) (gTupM [(gSet 3), (gSet 4)]))
    (sSeq (sAsg (eTree (lLst (aCons (eTree (lListOf (aCons (eVar 1) aNil))) (aCons (eTup (aCons (eTree (lListOf (aCons (eVar 3) aNil))) (aCons (eVar 4) aNil))) (aCons (eTup (aCons (eVar 3) (aCons (eVar 4) (aCons (eVar 4) aNil)))) (aCons (eTup (aCons (eVar 3) aNil)) (aCons (eTup (aCons (eVar 4) (aCons (eVar 3) aNil))) (aCons (eC .non) (aCons (eC (.int 7)) (aCons (eC (.str "up")) (aCons (eTup aNil) (aCons eDict0 aNil)))))))))))) (gSet 5))
    (sSeq (sAsg (e2 addD (eVar 5) (eTree (lLst (aCons (eTup (aCons (eVar 3) (aCons (eC (.str "Up")) aNil))) (aCons (eTup (aCons (eVar 3) (aCons (eC .non) aNil))) (aCons (eTup (aCons (eVar 3) (aCons (eC (.str "first")) aNil))) (aCons (eTup (aCons (eVar 3) (aCons (eTree (lLst (aCons (eC (.str "up")) aNil))) aNil))) (aCons (eTup (aCons (eC .non) (aCons (eVar 4) aNil))) (aCons (eTup (aCons (eVar 3) (aCons (eC (.bl true)) aNil))) aNil))))))))) (gSet 5))
    (sSeq (sAsg (e2 addD (eVar 5) (eTree (lLst (aCons (eTup (aCons (e2 addD (eVar 3) (eTup (aCons (eTup (aCons (eC (.str "nosuch")) (aCons (eC (.str "up")) (aCons (eC (.str "last")) aNil)))) aNil))) (aCons (eVar 4) aNil))) (aCons (eTup (aCons (e2 addD (eVar 3) (eTup (aCons (eC .non) aNil))) (aCons (eVar 4) aNil))) (aCons (e2 addD (e2 addD (eTup (aCons (eVar 3) aNil)) (eTup (aCons (eVar 4) aNil))) (eTup (aCons (eC (.int 1)) aNil))) aNil)))))) (gSet 5))
    (sSeq (sIf (tOf (e2 neB (eVar 3) (eTup aNil))) (sSeq (sAsg (e2 modD (e2 idxD (eVar 2) (eC (.int 1))) (eB lenD (aCons (eVar 3) aNil))) (gSet 6))
    (sSeq (sAsg (e2 idxD (eVar 3) (eVar 6)) (gTupM [(gSet 7), (gSet 8), (gSet 9)]))
    (sSeq (sAsg (eTree (lLst (aCons (eTup (aCons (eVar 7) (aCons (eVar 9) (aCons (eVar 8) aNil)))) (aCons (eTup (aCons (eVar 7) (aCons (eVar 8) aNil))) (aCons (eTup (aCons (eVar 7) (aCons (eVar 8) (aCons (eVar 9) (aCons (eVar 9) aNil))))) (aCons (eTree (lLst (aCons (eVar 7) (aCons (eVar 8) (aCons (eVar 9) aNil))))) (aCons (eTup (aCons (eVar 7) (aCons (eC (.str "")) (aCons (eVar 9) aNil)))) (aCons (eVar 7) aNil)))))))) (gSet 10))
    (sSeq (sAsg (e2 addD (eVar 10) (eTree (lLst (aCons (eTup (aCons (eVar 7) (aCons (eVar 8) (aCons (eC (.str "up")) aNil)))) (aCons (eTup (aCons (eTree (lLst (aCons (eVar 7) aNil))) (aCons (eVar 8) (aCons (eVar 9) aNil)))) (aCons (eTup (aCons (eC .non) (aCons (eVar 8) (aCons (eVar 9) aNil)))) (aCons (eTup (aCons (eC (.int 7)) (aCons (eVar 8) (aCons (eVar 9) aNil)))) (aCons (eTup (aCons (eVar 7) (aCons (eVar 8) (aCons (eC .non) aNil)))) aNil)))))))) (gSet 10))
    (sSeq (sAsg (e2 addD (eVar 10) (eTree (lLst (aCons (eTup (aCons (eVar 7) (aCons (eTree (lLst (aCons (eVar 8) aNil))) (aCons (eVar 9) aNil)))) (aCons (eTup (aCons (eVar 7) (aCons (eVar 8) (aCons (eTree (lLst (aCons (eVar 9) aNil))) aNil)))) aNil))))) (gSet 10))
    (sAsg (e2 addD (e2 addD (eTree (lComp (iSeq (eVar 10)) (gSet 11) tYesM (eTup (aCons (e2 addD (e2 addD (eSl (eVar 3) oNo (oYes (eVar 6))) (eTup (aCons (eVar 11) aNil))) (eSl (eVar 3) (oYes (e2 addD (eVar 6) (eC (.int 1)))) oNo)) (aCons (eVar 4) aNil))) [11])) (eVar 5)) (eTree (lLst (aCons (eTup (aCons (e2 addD (eVar 3) (eTup (aCons (e2 idxD (eVar 3) (eVar 6)) aNil))) (aCons (eVar 4) aNil))) aNil)))) (gSet 5))))))) sNil)
    (sRet (e2 idxD (eVar 5) (e2 modD (e2 idxD (eVar 2) (eC (.int 0))) (eB lenD (aCons (eVar 5) aNil))))))))))
noncomputable def f__law_bad_order : Fn := fn 3 12 m__law_bad_order
noncomputable def p__law_bad_order : Fn := fnP f__law_bad_order
theorem ok__law_bad_order {f : Addr} {fd : FuncData} (F : L2.Fun K "_law_bad_order" "_law_bad_order" st__law_bad_order f fd) (b_len : mg "len" = none) (b_list : mg "list" = none) : FnS P w K mg base 1 f fd ["_law_columns_here", "_law_order_here", "_law_xs"] f__law_bad_order :=
  fn_body F sc__law_bad_order fun cdv A outer s H E hr =>
    have nd := sc__law_bad_order.nd
    have tk := takes_of (X := cxOf (L2.CX P w) P w K mg base ["_law_columns_here", "_law_order_here", "_law_xs", "_law_parts", "_law_way", "_law_some", "_law_at", "_law_name", "_law_turn", "_law_end", "_law_odd", "_law_one"] "_law_bad_order" (defScope st__law_bad_order) f cdv A outer s H E) (E := E) rfl rfl rfl rfl
    have po := passes_of (X := cxOf (L2.CX P w) P w K mg base ["_law_columns_here", "_law_order_here", "_law_xs", "_law_parts", "_law_way", "_law_some", "_law_at", "_law_name", "_law_turn", "_law_end", "_law_odd", "_law_one"] "_law_bad_order" (defScope st__law_bad_order) f cdv A outer s H E) rfl
    (s_scons (s_asg (s_var 1) (s_gtup rfl (s_gcons (s_gname 3 nd) (s_gcons (s_gname 4 nd) s_gnil))))
    (s_scons (s_set 5 (s_tree (s_lst (s_cons (s_tree (s_listOf (s_cons (s_var 1) s_nil) b_list)) (s_cons (s_tup (s_cons (s_tree (s_listOf (s_cons (s_var 3) s_nil) b_list)) (s_cons (s_var 4) s_nil))) (s_cons (s_tup (s_cons (s_var 3) (s_cons (s_var 4) (s_cons (s_var 4) s_nil)))) (s_cons (s_tup (s_cons (s_var 3) s_nil)) (s_cons (s_tup (s_cons (s_var 4) (s_cons (s_var 3) s_nil))) (s_cons s_non (s_cons s_int (s_cons s_str (s_cons (s_tup s_nil) (s_cons s_dict0 s_nil)))))))))))) nd)
    (s_scons (s_set 5 (s_op d_add (s_var 5) (s_tree (s_lst (s_cons (s_tup (s_cons (s_var 3) (s_cons s_str s_nil))) (s_cons (s_tup (s_cons (s_var 3) (s_cons s_non s_nil))) (s_cons (s_tup (s_cons (s_var 3) (s_cons s_str s_nil))) (s_cons (s_tup (s_cons (s_var 3) (s_cons (s_tree (s_lst (s_cons s_str s_nil))) s_nil))) (s_cons (s_tup (s_cons s_non (s_cons (s_var 4) s_nil))) (s_cons (s_tup (s_cons (s_var 3) (s_cons s_bl s_nil))) s_nil))))))))) nd)
    (s_scons (s_set 5 (s_op d_add (s_var 5) (s_tree (s_lst (s_cons (s_tup (s_cons (s_op d_add (s_var 3) (s_tup (s_cons (s_tup (s_cons s_str (s_cons s_str (s_cons s_str s_nil)))) s_nil))) (s_cons (s_var 4) s_nil))) (s_cons (s_tup (s_cons (s_op d_add (s_var 3) (s_tup (s_cons s_non s_nil))) (s_cons (s_var 4) s_nil))) (s_cons (s_op d_add (s_op d_add (s_tup (s_cons (s_var 3) s_nil)) (s_tup (s_cons (s_var 4) s_nil))) (s_tup (s_cons s_int s_nil))) s_nil)))))) nd)
    (s_scons (s_if (s_tcmp (d_ne hr) (s_var 3) (s_tup s_nil)) (s_scons (s_set 6 (s_op d_mod (s_ix hr (s_var 2) s_int) (s_blt c_len PySem.boot_len (s_cons (s_var 3) s_nil) b_len)) nd)
    (s_scons (s_asg (s_ix hr (s_var 3) (s_var 6)) (s_gtup rfl (s_gcons (s_gname 7 nd) (s_gcons (s_gname 8 nd) (s_gcons (s_gname 9 nd) s_gnil)))))
    (s_scons (s_set 10 (s_tree (s_lst (s_cons (s_tup (s_cons (s_var 7) (s_cons (s_var 9) (s_cons (s_var 8) s_nil)))) (s_cons (s_tup (s_cons (s_var 7) (s_cons (s_var 8) s_nil))) (s_cons (s_tup (s_cons (s_var 7) (s_cons (s_var 8) (s_cons (s_var 9) (s_cons (s_var 9) s_nil))))) (s_cons (s_tree (s_lst (s_cons (s_var 7) (s_cons (s_var 8) (s_cons (s_var 9) s_nil))))) (s_cons (s_tup (s_cons (s_var 7) (s_cons s_str (s_cons (s_var 9) s_nil)))) (s_cons (s_var 7) s_nil)))))))) nd)
    (s_scons (s_set 10 (s_op d_add (s_var 10) (s_tree (s_lst (s_cons (s_tup (s_cons (s_var 7) (s_cons (s_var 8) (s_cons s_str s_nil)))) (s_cons (s_tup (s_cons (s_tree (s_lst (s_cons (s_var 7) s_nil))) (s_cons (s_var 8) (s_cons (s_var 9) s_nil)))) (s_cons (s_tup (s_cons s_non (s_cons (s_var 8) (s_cons (s_var 9) s_nil)))) (s_cons (s_tup (s_cons s_int (s_cons (s_var 8) (s_cons (s_var 9) s_nil)))) (s_cons (s_tup (s_cons (s_var 7) (s_cons (s_var 8) (s_cons s_non s_nil)))) s_nil)))))))) nd)
    (s_scons (s_set 10 (s_op d_add (s_var 10) (s_tree (s_lst (s_cons (s_tup (s_cons (s_var 7) (s_cons (s_tree (s_lst (s_cons (s_var 8) s_nil))) (s_cons (s_var 9) s_nil)))) (s_cons (s_tup (s_cons (s_var 7) (s_cons (s_var 8) (s_cons (s_tree (s_lst (s_cons (s_var 9) s_nil))) s_nil)))) s_nil))))) nd)
    (s_sone (s_set 5 (s_op d_add (s_op d_add (s_tree (s_comp rfl nd (s_iseq (s_var 10)) (blkOk_by (own := [("_law_one", 11)]) (by show blkC N__law_bad_order (defScope st__law_bad_order) _ _ = true; decide +kernel)) (fun _ _ _ _ _ => (s_gname 11 nd)) (fun _ _ _ _ _ => s_tsno) (fun _ _ _ _ _ => (s_tup (s_cons (s_op d_add (s_op d_add (s_sl (s_var 3) s_ono (s_oyes (s_var 6))) (s_tup (s_cons (s_var 11) s_nil))) (s_sl (s_var 3) (s_oyes (s_op d_add (s_var 6) s_int)) s_ono)) (s_cons (s_var 4) s_nil)))))) (s_var 5)) (s_tree (s_lst (s_cons (s_tup (s_cons (s_op d_add (s_var 3) (s_tup (s_cons (s_ix hr (s_var 3) (s_var 6)) s_nil))) (s_cons (s_var 4) s_nil))) s_nil)))) nd))))))) s_snil)
    (s_sone (s_ret (s_ix hr (s_var 5) (s_op d_mod (s_ix hr (s_var 2) s_int) (s_blt c_len PySem.boot_len (s_cons (s_var 5) s_nil) b_len))))))))))
abbrev st__law_bad_place : Stmt := top 37
abbrev N__law_bad_place : List Str := ["_law_columns_here", "_law_order_here", "_law_place", "_law_xs", "_law_values", "_law_key_here", "_law_keys", "_law_some", "_law_at", "_law_odd", "_law_one"]
theorem sc__law_bad_place : FnScope ["_law_columns_here", "_law_order_here", "_law_place", "_law_xs", "_law_values", "_law_key_here", "_law_keys", "_law_some", "_law_at", "_law_odd", "_law_one"] ["_law_columns_here", "_law_order_here", "_law_place", "_law_xs"] (defScope st__law_bad_place) := ⟨rfl, rfl, rfl, by decide +kernel, rfl, by decide +kernel, by decide +kernel⟩
noncomputable def m__law_bad_place : MS := (sSeq (sAsg (eVar 2) (gTupM [(gSet 4), (gSet 5)]))
    (sSeq (sAsg (eTree (lLst (aCons (eC (.str "")) (aCons (eC (.str "A")) (aCons (eC (.str "1")) (aCons (eC .non) (aCons (eC (.int 7)) (aCons (eTree (lLst (aCons (eC (.str "a")) aNil))) (aCons (e2 mulD (eC (.str "a")) (eC (.int 13))) (aCons (eC (.bl true)) (aCons (eC (.str "a b")) aNil))))))))))) (gSet 6))
    (sSeq (sAsg (e2 addD (eTree (lComp (iSeq (eVar 6)) (gSet 10) tYesM (eTup (aCons (eVar 4) (aCons (eVar 10) aNil))) [10])) (eTree (lLst (aCons (eTree (lListOf (aCons (eVar 2) aNil))) (aCons (eTup (aCons (eTree (lListOf (aCons (eVar 4) aNil))) (aCons (eVar 5) aNil))) (aCons (eTup (aCons (eVar 4) (aCons (eVar 5) (aCons (eVar 5) aNil)))) (aCons (eTup (aCons (eVar 4) aNil)) (aCons (eC .non) aNil)))))))) (gSet 7))
    (sSeq (sAsg (e2 addD (eVar 7) (eTree (lLst (aCons (eTup (aCons (e2 addD (eVar 4) (eTup (aCons (eC .non) aNil))) (aCons (eVar 5) aNil))) (aCons (eTup (aCons (e2 addD (eVar 4) (eTup (aCons (eC (.int 0)) aNil))) (aCons (eVar 5) aNil))) (aCons (eTup (aCons (eVar 5) (aCons (eVar 4) aNil))) (aCons (eTup aNil) (aCons (eC (.str "a")) (aCons (eC (.int 5)) aNil))))))))) (gSet 7))
    (sSeq (sIf (tOf (e2 neB (eVar 4) (eTup aNil))) (sSeq (sAsg (e2 modD (e2 idxD (eVar 3) (eC (.int 1))) (eB lenD (aCons (eVar 4) aNil))) (gSet 8))
    (sSeq (sAsg (eTree (lLst (aCons (eC (.bl true)) (aCons (eTree (lLst (aCons (e2 idxD (eVar 4) (eVar 8)) aNil))) (aCons (eTup (aCons (eC (.str "a")) aNil)) (aCons eDict0 (aCons (e2 mulD (eC (.str "a")) (eC (.int 41))) (aCons (eC (.str "a\n")) aNil)))))))) (gSet 9))
    (sSeq (sIf (tOf (e2 eqB (e2 idxD (eDictOf (aCons (eVar 0) aNil)) (e2 idxD (e2 idxD (e2 idxD (eVar 1) (eC (.int 0))) (eVar 8)) (eC (.int 0)))) (eC (.str "word")))) (sAsg (e2 addD (eVar 9) (eTree (lLst (aCons (eC (.int 0)) (aCons (eC (.int 5)) aNil))))) (gSet 9)) (sAsg (e2 addD (eVar 9) (eTree (lLst (aCons (eC (.str "")) (aCons (eC (.str "5")) aNil))))) (gSet 9)))
    (sAsg (e2 addD (e2 addD (eTree (lComp (iSeq (eVar 9)) (gSet 10) tYesM (eTup (aCons (e2 addD (e2 addD (eSl (eVar 4) oNo (oYes (eVar 8))) (eTup (aCons (eVar 10) aNil))) (eSl (eVar 4) (oYes (e2 addD (eVar 8) (eC (.int 1)))) oNo)) (aCons (eVar 5) aNil))) [10])) (eVar 7)) (eTree (lLst (aCons (eTup (aCons (eSl (eVar 4) (oYes (eC (.int 1))) oNo) (aCons (eVar 5) aNil))) aNil)))) (gSet 7))))) sNil)
    (sRet (e2 idxD (eVar 7) (e2 modD (e2 idxD (eVar 3) (eC (.int 0))) (eB lenD (aCons (eVar 7) aNil))))))))))
noncomputable def f__law_bad_place : Fn := fn 4 11 m__law_bad_place
noncomputable def p__law_bad_place : Fn := fnP f__law_bad_place
theorem ok__law_bad_place {f : Addr} {fd : FuncData} (F : L2.Fun K "_law_bad_place" "_law_bad_place" st__law_bad_place f fd) (b_dict : mg "dict" = none) (b_len : mg "len" = none) (b_list : mg "list" = none) : FnS P w K mg base 1 f fd ["_law_columns_here", "_law_order_here", "_law_place", "_law_xs"] f__law_bad_place :=
  fn_body F sc__law_bad_place fun cdv A outer s H E hr =>
    have nd := sc__law_bad_place.nd
    have tk := takes_of (X := cxOf (L2.CX P w) P w K mg base ["_law_columns_here", "_law_order_here", "_law_place", "_law_xs", "_law_values", "_law_key_here", "_law_keys", "_law_some", "_law_at", "_law_odd", "_law_one"] "_law_bad_place" (defScope st__law_bad_place) f cdv A outer s H E) (E := E) rfl rfl rfl rfl
    have po := passes_of (X := cxOf (L2.CX P w) P w K mg base ["_law_columns_here", "_law_order_here", "_law_place", "_law_xs", "_law_values", "_law_key_here", "_law_keys", "_law_some", "_law_at", "_law_odd", "_law_one"] "_law_bad_place" (defScope st__law_bad_place) f cdv A outer s H E) rfl
    (s_scons (s_asg (s_var 2) (s_gtup rfl (s_gcons (s_gname 4 nd) (s_gcons (s_gname 5 nd) s_gnil))))
    (s_scons (s_set 6 (s_tree (s_lst (s_cons s_str (s_cons s_str (s_cons s_str (s_cons s_non (s_cons s_int (s_cons (s_tree (s_lst (s_cons s_str s_nil))) (s_cons (s_op d_mul s_str s_int) (s_cons s_bl (s_cons s_str s_nil))))))))))) nd)
    (s_scons (s_set 7 (s_op d_add (s_tree (s_comp rfl nd (s_iseq (s_var 6)) (blkOk_by (own := [("_law_one", 10)]) (by show blkC N__law_bad_place (defScope st__law_bad_place) _ _ = true; decide +kernel)) (fun _ _ _ _ _ => (s_gname 10 nd)) (fun _ _ _ _ _ => s_tsno) (fun _ _ _ _ _ => (s_tup (s_cons (s_var 4) (s_cons (s_var 10) s_nil)))))) (s_tree (s_lst (s_cons (s_tree (s_listOf (s_cons (s_var 2) s_nil) b_list)) (s_cons (s_tup (s_cons (s_tree (s_listOf (s_cons (s_var 4) s_nil) b_list)) (s_cons (s_var 5) s_nil))) (s_cons (s_tup (s_cons (s_var 4) (s_cons (s_var 5) (s_cons (s_var 5) s_nil)))) (s_cons (s_tup (s_cons (s_var 4) s_nil)) (s_cons s_non s_nil)))))))) nd)
    (s_scons (s_set 7 (s_op d_add (s_var 7) (s_tree (s_lst (s_cons (s_tup (s_cons (s_op d_add (s_var 4) (s_tup (s_cons s_non s_nil))) (s_cons (s_var 5) s_nil))) (s_cons (s_tup (s_cons (s_op d_add (s_var 4) (s_tup (s_cons s_int s_nil))) (s_cons (s_var 5) s_nil))) (s_cons (s_tup (s_cons (s_var 5) (s_cons (s_var 4) s_nil))) (s_cons (s_tup s_nil) (s_cons s_str (s_cons s_int s_nil))))))))) nd)
    (s_scons (s_if (s_tcmp (d_ne hr) (s_var 4) (s_tup s_nil)) (s_scons (s_set 8 (s_op d_mod (s_ix hr (s_var 3) s_int) (s_blt c_len PySem.boot_len (s_cons (s_var 4) s_nil) b_len)) nd)
    (s_scons (s_set 9 (s_tree (s_lst (s_cons s_bl (s_cons (s_tree (s_lst (s_cons (s_ix hr (s_var 4) (s_var 8)) s_nil))) (s_cons (s_tup (s_cons s_str s_nil)) (s_cons s_dict0 (s_cons (s_op d_mul s_str s_int) (s_cons s_str s_nil)))))))) nd)
    (s_scons (s_if (s_tcmp (d_eq hr) (s_ix hr (s_dictOf (s_cons (s_var 0) s_nil) b_dict) (s_ix hr (s_ix hr (s_ix hr (s_var 1) s_int) (s_var 8)) s_int)) s_str) (s_sone (s_set 9 (s_op d_add (s_var 9) (s_tree (s_lst (s_cons s_int (s_cons s_int s_nil))))) nd)) (s_sone (s_set 9 (s_op d_add (s_var 9) (s_tree (s_lst (s_cons s_str (s_cons s_str s_nil))))) nd)))
    (s_sone (s_set 7 (s_op d_add (s_op d_add (s_tree (s_comp rfl nd (s_iseq (s_var 9)) (blkOk_by (own := [("_law_one", 10)]) (by show blkC N__law_bad_place (defScope st__law_bad_place) _ _ = true; decide +kernel)) (fun _ _ _ _ _ => (s_gname 10 nd)) (fun _ _ _ _ _ => s_tsno) (fun _ _ _ _ _ => (s_tup (s_cons (s_op d_add (s_op d_add (s_sl (s_var 4) s_ono (s_oyes (s_var 8))) (s_tup (s_cons (s_var 10) s_nil))) (s_sl (s_var 4) (s_oyes (s_op d_add (s_var 8) s_int)) s_ono)) (s_cons (s_var 5) s_nil)))))) (s_var 7)) (s_tree (s_lst (s_cons (s_tup (s_cons (s_sl (s_var 4) (s_oyes s_int) s_ono) (s_cons (s_var 5) s_nil))) s_nil)))) nd))))) s_snil)
    (s_sone (s_ret (s_ix hr (s_var 7) (s_op d_mod (s_ix hr (s_var 3) s_int) (s_blt c_len PySem.boot_len (s_cons (s_var 7) s_nil) b_len))))))))))
abbrev st_law : Stmt := top 38
abbrev N_law : List Str := ["_law_script", "_law_columns_here", "_law_order_here", "_law_gap_here", "_law_nine", "_law_cell", "_law_xs", "_law_bad", "_law_way", "_law_thing"]
theorem sc_law : FnScope ["_law_script", "_law_columns_here", "_law_order_here", "_law_gap_here", "_law_nine", "_law_cell", "_law_xs", "_law_bad", "_law_way", "_law_thing"] ["_law_script"] (defScope st_law) := ⟨rfl, rfl, rfl, by decide +kernel, rfl, by decide +kernel, by decide +kernel⟩
noncomputable def m_law : MS := (sSeq (sAsg (eCall 1 [] f__law_columns (aCons (eCall 2 [] f__law_cell_at (aCons (eVar 0) (aCons (eC (.int 0)) aNil))) aNil)) (gSet 1))
    (sSeq (sAsg (eCall 2 [] f__law_order (aCons (eVar 1) (aCons (eCall 2 [] f__law_cell_at (aCons (eVar 0) (aCons (eC (.int 1)) aNil))) aNil))) (gSet 2))
    (sSeq (sAsg (eCall 3 [] f__law_gap (aCons (eVar 1) (aCons (eVar 2) (aCons (eCall 2 [] f__law_cell_at (aCons (eVar 0) (aCons (eC (.int 2)) aNil))) aNil)))) (gSet 3))
    (sSeq (sIf (tOr2 (tOf (e2 isntB (eCall 2 [] f_check_order (aCons (eVar 1) (aCons (eVar 2) aNil))) (eC .non))) (tOf (e2 isntB (eCall 2 [] f_check_order (aCons (eVar 1) (aCons (eTup (aCons (eTup aNil) (aCons (eC (.str "down")) aNil))) aNil))) (eC .non)))) (sRet (eC (.bl false))) sNil)
    (sSeq (sIf (tOr2 (tOf (e2 isntB (eCall 3 [] f_check_place (aCons (eVar 1) (aCons (eVar 2) (aCons (e2 idxD (eVar 3) (eC (.int 0))) aNil)))) (eC .non))) (tOf (e2 isntB (eCall 3 [] f_check_gap (aCons (eVar 1) (aCons (eVar 2) (aCons (eVar 3) aNil)))) (eC .non)))) (sRet (eC (.bl false))) sNil)
    (sSeq (sAsg (eTree (lLst (aCons (eTup (aCons (e2 idxD (eVar 3) (eC (.int 0))) (aCons (eTree (lLst (aCons (eC (.str "ahead")) aNil))) aNil))) aNil))) (gSet 4))
    (sSeq (sAsg (e2 addD (eVar 4) (eTree (lLst (aCons (eTup (aCons (e2 idxD (eVar 3) (eC (.int 0))) (aCons (eC (.str "up")) aNil))) (aCons (eTup (aCons (e2 idxD (eVar 3) (eC (.int 0))) (aCons (eC .non) aNil))) (aCons (eTup (aCons (e2 idxD (eVar 3) (eC (.int 0))) aNil)) (aCons (eTup (aCons (e2 idxD (eVar 3) (eC (.int 0))) (aCons (eC (.str "ahead")) (aCons (eC (.str "ahead")) aNil)))) aNil))))))) (gSet 4))
    (sSeq (sAsg (e2 addD (eVar 4) (eTree (lLst (aCons (eTree (lListOf (aCons (eVar 3) aNil))) (aCons (eC .non) (aCons (e2 idxD (eVar 3) (eC (.int 0))) (aCons (eTup aNil) (aCons (eC (.str "ahead")) aNil)))))))) (gSet 4))
    (sSeq (sFor (iSeq (eSl (eVar 0) (oYes (eC (.int 3))) (oYes (eC (.int 15))))) (gSet 5) (sSeq (sAsg (eCall 2 [] p__law_draws (aCons (eVar 5) (aCons (eC (.int 3)) aNil))) (gSet 6))
    (sSeq (sIf (tOf (e2 neB (eCall 4 [] f__law_refused (aCons (eVar 1) (aCons (eCall 3 [] f__law_bad_order (aCons (eVar 1) (aCons (eVar 2) (aCons (eVar 6) aNil)))) (aCons (eVar 3) (aCons (eC (.int 0)) aNil))))) (eTree (lLst (aCons (eC (.bl true)) (aCons (eC (.bl false)) (aCons (eC (.bl false)) (aCons (eC (.bl false)) aNil)))))))) (sRet (eC (.bl false))) sNil)
    (sSeq (sAsg (eCall 4 [] f__law_bad_place (aCons (eVar 1) (aCons (eVar 2) (aCons (e2 idxD (eVar 3) (eC (.int 0))) (aCons (eVar 6) aNil))))) (gSet 7))
    (sFor (iSeq (eTree (lLst (aCons (eTup (aCons (eC (.int 1)) (aCons (eVar 7) aNil))) (aCons (eTup (aCons (eC (.int 2)) (aCons (eTup (aCons (eVar 7) (aCons (e2 idxD (eVar 3) (eC (.int 1))) aNil))) aNil))) (aCons (eTup (aCons (eC (.int 2)) (aCons (e2 idxD (eVar 4) (e2 modD (e2 idxD (eVar 6) (eC (.int 2))) (eB lenD (aCons (eVar 4) aNil)))) aNil))) aNil)))))) (gTupM [(gSet 8), (gSet 9)]) (sIf (tOf (e2 neB (eCall 4 [] f__law_refused (aCons (eVar 1) (aCons (eVar 2) (aCons (eVar 9) (aCons (eVar 8) aNil))))) (eTree (lLst (aCons (eC (.bl false)) (aCons (eC (.bl true)) (aCons (eC (.bl false)) (aCons (eC (.bl false)) aNil)))))))) (sRet (eC (.bl false))) sNil))))))
    (sRet (e2 isB (eCall 3 [] f_check_gap (aCons (eVar 1) (aCons (eVar 2) (aCons (eVar 3) aNil)))) (eC .non))))))))))))
noncomputable def f_law : Fn := fn 1 10 m_law
noncomputable def p_law : Fn := fnP f_law
theorem ok_law {f : Addr} {fd : FuncData} (F : L2.Fun K "law" "law" st_law f fd) (b_len : mg "len" = none) (b_list : mg "list" = none) (G__law_bad_order : GFn P w K mg base "_law_bad_order" 1 3 [] f__law_bad_order) (G__law_bad_place : GFn P w K mg base "_law_bad_place" 1 4 [] f__law_bad_place) (G__law_cell_at : GFn P w K mg base "_law_cell_at" 1 2 [] f__law_cell_at) (G__law_columns : GFn P w K mg base "_law_columns" 2 1 [] f__law_columns) (G__law_draws : GFn P w K mg base "_law_draws" 1 2 [] f__law_draws) (G__law_gap : GFn P w K mg base "_law_gap" 2 3 [] f__law_gap) (G__law_order : GFn P w K mg base "_law_order" 2 2 [] f__law_order) (G__law_refused : GFn P w K mg base "_law_refused" 5 4 [] f__law_refused) (G_check_gap : GFn P w K mg base "check_gap" 4 3 [] f_check_gap) (G_check_order : GFn P w K mg base "check_order" 4 2 [] f_check_order) (G_check_place : GFn P w K mg base "check_place" 3 3 [] f_check_place) : FnS P w K mg base 6 f fd ["_law_script"] f_law :=
  fn_body F sc_law fun cdv A outer s H E hr =>
    have nd := sc_law.nd
    have tk := takes_of (X := cxOf (L2.CX P w) P w K mg base ["_law_script", "_law_columns_here", "_law_order_here", "_law_gap_here", "_law_nine", "_law_cell", "_law_xs", "_law_bad", "_law_way", "_law_thing"] "law" (defScope st_law) f cdv A outer s H E) (E := E) rfl rfl rfl rfl
    have po := passes_of (X := cxOf (L2.CX P w) P w K mg base ["_law_script", "_law_columns_here", "_law_order_here", "_law_gap_here", "_law_nine", "_law_cell", "_law_xs", "_law_bad", "_law_way", "_law_thing"] "law" (defScope st_law) f cdv A outer s H E) rfl
    (s_scons (s_set 1 (s_call G__law_columns hr tk (s_cons (s_call G__law_cell_at hr tk (s_cons (s_var 0) (s_cons s_int s_nil))) s_nil)) nd)
    (s_scons (s_set 2 (s_call G__law_order hr tk (s_cons (s_var 1) (s_cons (s_call G__law_cell_at hr tk (s_cons (s_var 0) (s_cons s_int s_nil))) s_nil))) nd)
    (s_scons (s_set 3 (s_call G__law_gap hr tk (s_cons (s_var 1) (s_cons (s_var 2) (s_cons (s_call G__law_cell_at hr tk (s_cons (s_var 0) (s_cons s_int s_nil))) s_nil)))) nd)
    (s_scons (s_if (PW.pt (s_or (s_tcmp d_isnt (s_call G_check_order hr tk (s_cons (s_var 1) (s_cons (s_var 2) s_nil))) s_non) (s_or1 (s_tcmp d_isnt (s_call G_check_order hr tk (s_cons (s_var 1) (s_cons (s_tup (s_cons (s_tup s_nil) (s_cons s_str s_nil))) s_nil))) s_non)))) (s_sone (s_ret s_bl)) s_snil)
    (s_scons (s_if (PW.pt (s_or (s_tcmp d_isnt (s_call G_check_place hr tk (s_cons (s_var 1) (s_cons (s_var 2) (s_cons (s_ix hr (s_var 3) s_int) s_nil)))) s_non) (s_or1 (s_tcmp d_isnt (s_call G_check_gap hr tk (s_cons (s_var 1) (s_cons (s_var 2) (s_cons (s_var 3) s_nil)))) s_non)))) (s_sone (s_ret s_bl)) s_snil)
    (s_scons (s_set 4 (s_tree (s_lst (s_cons (s_tup (s_cons (s_ix hr (s_var 3) s_int) (s_cons (s_tree (s_lst (s_cons s_str s_nil))) s_nil))) s_nil))) nd)
    (s_scons (s_set 4 (s_op d_add (s_var 4) (s_tree (s_lst (s_cons (s_tup (s_cons (s_ix hr (s_var 3) s_int) (s_cons s_str s_nil))) (s_cons (s_tup (s_cons (s_ix hr (s_var 3) s_int) (s_cons s_non s_nil))) (s_cons (s_tup (s_cons (s_ix hr (s_var 3) s_int) s_nil)) (s_cons (s_tup (s_cons (s_ix hr (s_var 3) s_int) (s_cons s_str (s_cons s_str s_nil)))) s_nil))))))) nd)
    (s_scons (s_set 4 (s_op d_add (s_var 4) (s_tree (s_lst (s_cons (s_tree (s_listOf (s_cons (s_var 3) s_nil) b_list)) (s_cons s_non (s_cons (s_ix hr (s_var 3) s_int) (s_cons (s_tup s_nil) (s_cons s_str s_nil)))))))) nd)
    (s_scons (s_for po rfl (s_iseq (s_sl (s_var 0) (s_oyes s_int) (s_oyes s_int))) (s_gname 5 nd) (s_scons (s_set 6 (s_call G__law_draws.pure hr tk (s_cons (s_var 5) (s_cons s_int s_nil))) nd)
    (s_scons (s_if (s_tcmp (d_ne hr) (s_call G__law_refused hr tk (s_cons (s_var 1) (s_cons (s_call G__law_bad_order hr tk (s_cons (s_var 1) (s_cons (s_var 2) (s_cons (s_var 6) s_nil)))) (s_cons (s_var 3) (s_cons s_int s_nil))))) (s_tree (s_lst (s_cons s_bl (s_cons s_bl (s_cons s_bl (s_cons s_bl s_nil))))))) (s_sone (s_ret s_bl)) s_snil)
    (s_scons (s_set 7 (s_call G__law_bad_place hr tk (s_cons (s_var 1) (s_cons (s_var 2) (s_cons (s_ix hr (s_var 3) s_int) (s_cons (s_var 6) s_nil))))) nd)
    (s_sone (s_for po rfl (s_iseq (s_tree (s_lst (s_cons (s_tup (s_cons s_int (s_cons (s_var 7) s_nil))) (s_cons (s_tup (s_cons s_int (s_cons (s_tup (s_cons (s_var 7) (s_cons (s_ix hr (s_var 3) s_int) s_nil))) s_nil))) (s_cons (s_tup (s_cons s_int (s_cons (s_ix hr (s_var 4) (s_op d_mod (s_ix hr (s_var 6) s_int) (s_blt c_len PySem.boot_len (s_cons (s_var 4) s_nil) b_len))) s_nil))) s_nil)))))) (s_gtup rfl (s_gcons (s_gname 8 nd) (s_gcons (s_gname 9 nd) s_gnil))) (s_sone (s_if (s_tcmp (d_ne hr) (s_call G__law_refused hr tk (s_cons (s_var 1) (s_cons (s_var 2) (s_cons (s_var 9) (s_cons (s_var 8) s_nil))))) (s_tree (s_lst (s_cons s_bl (s_cons s_bl (s_cons s_bl (s_cons s_bl s_nil))))))) (s_sone (s_ret s_bl)) s_snil))))))))
    (s_sone (s_ret (s_cmp d_is (s_call G_check_gap hr tk (s_cons (s_var 1) (s_cons (s_var 2) (s_cons (s_var 3) s_nil)))) s_non))))))))))))
end
end LW
namespace LW
open PySem PySem.Spec PyProof.Rows L2 MM
/-! ### data told apart -/
theorem cps_tri {x y : Str} (h : x ≠ y) : cpsLt y x = !cpsLt x y := by
  have hl : x.cps.toList ≠ y.cps.toList := fun z => h (by
    cases x with
    | mk a =>
      cases y with
      | mk b =>
        have : a = b := Array.toList_inj.mp z
        rw [this])
  unfold cpsLt
  by_cases q : x.cps.toList < y.cps.toList
  · have q2 : ¬ y.cps.toList < x.cps.toList := fun z => List.lt_irrefl _ (List.lt_trans q z)
    simp [q, q2]
  · have q2 : y.cps.toList < x.cps.toList := by
      have h1 : y.cps.toList ≤ x.cps.toList := List.not_lt.mp q
      by_cases z : y.cps.toList < x.cps.toList
      · exact z
      · exact absurd (List.le_antisymm (List.not_lt.mp z) h1) hl
    simp [q, q2]
def dat : Nat → D → Bool
  | _, .non => true
  | _, .int _ => true
  | _, .str _ => true
  | n + 1, .tup xs => xs.all (dat n)
  | n + 1, .lst xs => xs.all (dat n)
  | _, _ => false
def pyN : Nat → D → PyData
  | _, .non => .none
  | _, .int i => .int i
  | _, .str x => .str x
  | n + 1, .tup xs => .tuple (xs.map (pyN n))
  | n + 1, .lst xs => .list (xs.map (pyN n))
  | _, _ => .none
theorem dat_pys {M : Mem} {n : Nat} (h : ∀ d, dat n d = true → toPy M d = some (pyN n d)) : ∀ xs : List D, xs.all (dat n) = true → toPys M xs = some (xs.map (pyN n))
  | [], _ => rfl
  | d :: xs, q => by
    simp only [List.all_cons, Bool.and_eq_true] at q
    rw [toPys, h d q.1, dat_pys h xs q.2]
    rfl
theorem dat_py (M : Mem) : ∀ (n : Nat) (d : D), dat n d = true → toPy M d = some (pyN n d)
  | 0, d, h => by cases d <;> simp [dat] at h <;> simp [toPy, pyN]
  | n + 1, d, h => by
    cases d <;> simp only [dat, Bool.false_eq_true] at h
    case tup xs =>
      rw [toPy, dat_pys (dat_py M n) xs h, pyN]
      rfl
    case lst xs =>
      rw [toPy, dat_pys (dat_py M n) xs h, pyN]
      rfl
    all_goals simp [toPy, pyN]
theorem deps (n k : Nat) (h : ∀ d, (pyN n d).depth ≤ k) : ∀ xs : List D, PyData.depthAll (xs.map (pyN n)) ≤ k
  | [] => by simp [PyData.depthAll]
  | d :: xs => by
    have := deps n k h xs
    have := h d
    rw [List.map_cons, PyData.depthAll]
    omega
theorem dat_depth : ∀ (n : Nat) (d : D), (pyN n d).depth ≤ n + 1
  | 0, d => by cases d <;> simp [pyN, PyData.depth]
  | n + 1, d => by
    have := deps n (n + 1) (dat_depth n)
    cases d <;> simp [pyN, PyData.depth]
    all_goals
      rename_i xs
      have := this xs
      omega
theorem eqv_all {n : Nat} (h : ∀ d e, dat n d = true → dat n e = true → (PyData.eqv (pyN n d) (pyN n e) = true ↔ d = e)) : ∀ xs ys : List D, xs.all (dat n) = true → ys.all (dat n) = true → (PyData.eqvAll (xs.map (pyN n)) (ys.map (pyN n)) = true ↔ xs = ys)
  | [], [], _, _ => by simp [PyData.eqvAll]
  | [], _ :: _, _, _ => by simp [PyData.eqvAll]
  | _ :: _, [], _, _ => by simp [PyData.eqvAll]
  | d :: xs, e :: ys, q, r => by
    simp only [List.all_cons, Bool.and_eq_true] at q r
    rw [List.map_cons, List.map_cons, PyData.eqvAll, Bool.and_eq_true, h d e q.1 r.1, eqv_all h xs ys q.2 r.2, List.cons.injEq]
theorem dat_eqv : ∀ (n : Nat) (d e : D), dat n d = true → dat n e = true → (PyData.eqv (pyN n d) (pyN n e) = true ↔ d = e)
  | 0, d, e, h, g => by cases d <;> simp [dat] at h <;> cases e <;> simp [dat] at g <;> simp [pyN, PyData.eqv]
  | n + 1, d, e, h, g => by
    have ih := eqv_all (dat_eqv n)
    cases d <;> simp only [dat, Bool.false_eq_true] at h <;> cases e <;> simp only [dat, Bool.false_eq_true] at g <;> simp [pyN, PyData.eqv]
    all_goals exact ih _ _ h g
open Classical in
theorem eq_dat {M : Mem} {d e : D} (n : Nat) (h : dat n d = true) (g : dat n e = true) (hn : n ≤ 60 := by decide) : eqB M d e = some (.bl (decide (d = e))) := by
  have := dat_depth n d
  unfold eqB eqD
  rw [dat_py M n d h, dat_py M n e g]
  dsimp only
  rw [if_pos (Nat.le_trans (Nat.min_le_left _ _) (by omega))]
  by_cases q : d = e
  · rw [decide_eq_true q, (dat_eqv n d e h g).mpr q]
    rfl
  · rw [decide_eq_false q]
    cases z : PyData.eqv (pyN n d) (pyN n e)
    · rfl
    · exact absurd ((dat_eqv n d e h g).mp z) q
open Classical in
theorem ne_dat {M : Mem} {d e : D} (n : Nat) (h : dat n d = true) (g : dat n e = true) (hn : n ≤ 60 := by decide) : neB M d e = some (.bl (!decide (d = e))) := by
  have z := eq_dat (M := M) n h g hn
  unfold eqB at z
  unfold neB
  obtain ⟨b, hb, e1⟩ := Option.map_eq_some_iff.mp z
  rw [hb]
  injection e1 with e1
  rw [← e1]
  rfl
/-! ### a loop, a comprehension over a cell that stays -/
theorem forG_cell {tg : TgM} {b : MS} {all : List D} {g : Option Nat} (I : Nat → Sl → Mem → Prop) (hI : ∀ k s M, I k s M → guardOk M all g) : ∀ (rest : List D) (k : Nat) (s : Sl) (M : Mem), I k s M →
    (∀ i d s M, rest[i]? = some d → I (k + i) s M → ∃ s1 s2 M2, tg d s = some s1 ∧ (b s1 M = .nx s2 M2 ∨ b s1 M = .ct s2 M2) ∧ I (k + i + 1) s2 M2) →
    ∃ s' M', forG tg b all g rest s M = .nx s' M' ∧ I (k + rest.length) s' M'
  | [], k, s, M, h, _ => ⟨s, M, by rw [forG, if_pos (hI _ _ _ h)], h⟩
  | d :: ds, k, s, M, h, st => by
    obtain ⟨s1, s2, M2, e1, e2, h2⟩ := st 0 d s M rfl h
    obtain ⟨s3, M3, e3, h3⟩ := forG_cell (tg := tg) (b := b) I hI ds (k + 1) s2 M2 h2 fun i d s M q J => by
      obtain ⟨t1, t2, N2, q1, q2, q3⟩ := st (i + 1) d s M (by simpa using q) (by rw [show k + (i + 1) = k + 1 + i by omega]; exact J)
      exact ⟨t1, t2, N2, q1, q2, by rw [show k + 1 + i + 1 = k + (i + 1) + 1 by omega]; exact q3⟩
    refine ⟨s3, M3, ?_, by rw [List.length_cons, show k + (ds.length + 1) = k + 1 + ds.length by omega]; exact h3⟩
    rw [forG, if_pos (hI _ _ _ h), e1]
    rcases e2 with e2 | e2 <;> (dsimp only; rw [e2]; exact e3)
theorem for_cell {tg : TgM} {b : MS} {g : Option Nat} (I : Nat → Sl → Mem → Prop) {it : MI} {ds : List D} {s : Sl} {M M1 : Mem} (hi : it s M = .ok (ds, g) M1) (hI : ∀ k s M, I k s M → guardOk M ds g) (h0 : I 0 s M1)
    (st : ∀ i d s M, ds[i]? = some d → I i s M → ∃ s1 s2 M2, tg d s = some s1 ∧ (b s1 M = .nx s2 M2 ∨ b s1 M = .ct s2 M2) ∧ I (i + 1) s2 M2) :
    ∃ s' M', sFor it tg b s M = .nx s' M' ∧ I ds.length s' M' := by
  obtain ⟨s', M', e, h⟩ := forG_cell (tg := tg) (b := b) (all := ds) I hI ds 0 s M1 h0 fun i d s M q J => by
    have := st i d s M q (by simpa using J)
    simpa using this
  exact ⟨s', M', by unfold sFor; rw [hi]; exact e, by simpa using h⟩
theorem comp_overG {α : Type} {it : MI} {tg : TgM} {te : ME} {own : List Nat} {s : Sl} {M M0 : Mem} {l : List α} {gd : Option Nat} (f : α → D) (g : α → D) (hi : it s M0 = .ok (l.map f, gd) M) (hg : guardOk M (l.map f) gd) (k : ∀ c ∈ l, ∃ s2, tg (f c) (wipeD s own) = some s2 ∧ te s2 M = .ok (g c) M) (hl : l.length ≤ sizeLine) :
    lComp it tg tYesM te own s M0 = .ok (l.map g) M := by
  have aux : ∀ (l acc : List _) (all : List D), guardOk M all gd → (∀ c ∈ l, ∃ s2, tg (f c) (wipeD s own) = some s2 ∧ te s2 M = .ok (g c) M) → acc.length + l.length ≤ sizeLine → compG tg tYesM te (wipeD s own) all gd (l.map f) acc M = .ok (acc ++ l.map g) M := by
    intro l
    induction l with
    | nil => intro acc all ga _ _; rw [List.map_nil, compG, if_pos ga]; simp
    | cons c l ih =>
      intro acc all ga k hl
      obtain ⟨s2, e1, e2⟩ := k c (by simp)
      rw [List.length_cons] at hl
      rw [List.map_cons, compG, if_pos ga, e1]
      have e3 : tYesM s2 M = .ok true M := rfl
      simp only [e3, v_bind, if_true, e2]
      rw [if_pos (by omega), ih (acc ++ [g c]) all ga (fun d hd => k d (by simp [hd])) (by simp; omega)]
      simp
  unfold lComp
  rw [hi]
  show noex (compG tg tYesM te (wipeD s own) (l.map f) gd (l.map f) [] M) = _
  rw [aux l [] _ hg k (by simpa using hl)]
  rfl
/-! ### what the defs tell of a text, of another thing -/
def SMs : Str := "abcdefghijklmnopqrstuvwxyz"
def FGs : Str := "0123456789"
def inS (y : Str) (c : Nat) : Bool := decide (c ∈ y.cps.toList)
def wordC (c : Nat) : Bool := !cpsLt ⟨#[c]⟩ " " && !cpsLt "~" ⟨#[c]⟩
def wdB (x : Str) : Bool := decide (x.length ≤ 40) && x.cps.toList.all wordC
theorem isiS {M : Mem} {x : Str} : isiD M [.str x, .ty "str"] = some (.bl true) := isi_ok (t := "str") rfl (by decide)
theorem isiSI {M : Mem} {x : Str} : isiD M [.str x, .ty "int"] = some (.bl false) := isi_ok (t := "str") rfl (by decide)
theorem isiII {M : Mem} {x : Int} : isiD M [.int x, .ty "int"] = some (.bl true) := isi_ok (t := "int") rfl (by decide)
theorem isiIS {M : Mem} {x : Int} : isiD M [.int x, .ty "str"] = some (.bl false) := isi_ok (t := "int") rfl (by decide)
theorem isiIB {M : Mem} {x : Int} : isiD M [.int x, .ty "bool"] = some (.bl false) := isi_ok (t := "int") rfl (by decide)
theorem isiBI {M : Mem} {x : Bool} : isiD M [.bl x, .ty "int"] = some (.bl true) := isi_ok (t := "bool") rfl (by decide)
theorem isiBS {M : Mem} {x : Bool} : isiD M [.bl x, .ty "str"] = some (.bl false) := isi_ok (t := "bool") rfl (by decide)
theorem isiBB {M : Mem} {x : Bool} : isiD M [.bl x, .ty "bool"] = some (.bl true) := isi_ok (t := "bool") rfl (by decide)
theorem isiNI {M : Mem} : isiD M [.non, .ty "int"] = some (.bl false) := isi_ok (t := "NoneType") rfl (by decide)
theorem isiNS {M : Mem} : isiD M [.non, .ty "str"] = some (.bl false) := isi_ok (t := "NoneType") rfl (by decide)
theorem isiTI {M : Mem} {xs : List D} : isiD M [.tup xs, .ty "int"] = some (.bl false) := isi_ok (t := "tuple") rfl (by decide)
theorem isiTS {M : Mem} {xs : List D} : isiD M [.tup xs, .ty "str"] = some (.bl false) := isi_ok (t := "tuple") rfl (by decide)
theorem isiLI {M : Mem} {xs : List D} : isiD M [.lst xs, .ty "int"] = some (.bl false) := isi_ok (t := "list") rfl (by decide)
theorem isiLS {M : Mem} {xs : List D} : isiD M [.lst xs, .ty "str"] = some (.bl false) := isi_ok (t := "list") rfl (by decide)
theorem isiDI {M : Mem} {i : Nat} {kvs : List (Key × D)} (h : M[i]? = some (.dct kvs)) : isiD M [.obj i, .ty "int"] = some (.bl false) := isi_ok (t := "dict") (by simp only [tyD, h]) (by decide)
theorem isiDS {M : Mem} {i : Nat} {kvs : List (Key × D)} (h : M[i]? = some (.dct kvs)) : isiD M [.obj i, .ty "str"] = some (.bl false) := isi_ok (t := "dict") (by simp only [tyD, h]) (by decide)
theorem len_list (x : Str) : x.length = x.cps.toList.length := by simp [Str.length]
def hdB (x : Str) : Bool := match x.cps.toList with | c :: _ => inS SMs c | [] => false
def kyB (x : Str) : Bool := decide (1 ≤ x.length) && (decide (x.length ≤ 12) && (hdB x && x.cps.toList.all fun c => inS SMs c || inS FGs c))
theorem idx_s0 {M : Mem} {x : Str} {c : Nat} {r : List Nat} (h : x.cps.toList = c :: r) : idxD M (.str x) (.int 0) = some (.str ⟨#[c]⟩) := by
  show (atI x.cps.toList 0).map (fun c => D.str ⟨#[c]⟩) = _
  rw [h, atI_0]
  rfl
theorem nin_small {M : Mem} {c : Nat} : ninB M (.str ⟨#[c]⟩) k_SMALL = some (.bl (!inS SMs c)) := w_ninS1
theorem word_ok (M : Mem) (x : Str) (hx : x.length ≤ 5000) : f_is_word [.str x] M = .ok (.bl (wdB x)) M := by
  refine fn_rt rfl ?_
  show m_is_word [some (.str x), none] M = _
  have e := comp_signs (m := eVar 0) (te := eChain leB leB (eC (.str " ")) (eVar 1) (eC (.str "~"))) (own := [1]) (s := [some (.str x), none]) (M := M) (x := x) (j := 1) wordC rfl (fun c _ => by
    simp only [v_Chain, v_C, wipeD, List.set, v_var1, v_var0, v_bind, leB, v_oo]
    unfold wordC
    cases cpsLt ⟨#[c]⟩ " " <;> simp [leB]) hx
  have g := all_list (M := M) wordC x.cps.toList
  unfold m_is_word wdB
  by_cases h2 : x.length ≤ 40
  · have h2' : (x.length : Int) ≤ 40 := by omega
    simp [isiS, k_MOST_SIGNS, h2, h2', e, g]
  · have h2' : ¬ (x.length : Int) ≤ 40 := by omega
    simp [isiS, k_MOST_SIGNS, h2, h2']
theorem key_ok (M : Mem) (x : Str) (hx : x.length ≤ 5000) : f_is_key [.str x] M = .ok (.bl (kyB x)) M := by
  refine fn_rt rfl ?_
  show m_is_key [some (.str x), none] M = _
  have e := comp_signs (m := eVar 0) (te := eOr (e2 inB (eVar 1) (eC k_SMALL)) (e2 inB (eVar 1) (eC k_FIGURES))) (own := [1]) (s := [some (.str x), none]) (M := M) (x := x) (j := 1) (fun c => inS SMs c || inS FGs c) rfl (fun c _ => by
    by_cases h : c ∈ SMs.cps.toList
    · have h' := h
      simp only [SMs] at h'
      simp [wipeD, k_SMALL, k_FIGURES, inS, SMs, FGs, h']
    · have h' := h
      simp only [SMs] at h'
      simp [wipeD, k_SMALL, k_FIGURES, inS, SMs, FGs, h']) hx
  have g := all_list (M := M) (fun c => inS SMs c || inS FGs c) x.cps.toList
  have hl := len_list x
  unfold m_is_key kyB
  by_cases h1 : 1 ≤ x.length
  · by_cases h2 : x.length ≤ 12
    · have h1' : (1 : Int) ≤ x.length := by omega
      have h2' : (x.length : Int) ≤ 12 := by omega
      cases q : x.cps.toList with
      | nil => rw [q] at hl; simp at hl; omega
      | cons c r =>
        have i0 := idx_s0 (M := M) q
        have hh : hdB x = inS SMs c := by unfold hdB; rw [q]
        by_cases h3 : c ∈ SMs.cps.toList
        · have h3' := h3
          simp only [SMs] at h3'
          have h4 : inS SMs c = true := decide_eq_true h3
          rw [← q]
          simp [v_sSeq, isiS, h1, h2, h1', h2', i0, nin_small, e, g, hh, h4]
        · have h3' := h3
          simp only [SMs] at h3'
          have h4 : inS SMs c = false := decide_eq_false h3
          simp [v_sSeq, isiS, h1, h2, h1', h2', i0, nin_small, hh, h4]
    · have h1' : (1 : Int) ≤ x.length := by omega
      have h2' : ¬ (x.length : Int) ≤ 12 := by omega
      simp [v_sSeq, isiS, h1, h2, h1', h2']
  · have h1' : ¬ (1 : Int) ≤ x.length := by omega
    simp [v_sSeq, isiS, h1, h1']
theorem whole_s (M : Mem) (x : Str) : f_is_whole [.str x] M = .ok (.bl false) M := fn_rt rfl (by show m_is_whole [some (.str x)] M = _; unfold m_is_whole; simp [isiSI])
theorem whole_i (M : Mem) (x : Int) : f_is_whole [.int x] M = .ok (.bl true) M := fn_rt rfl (by show m_is_whole [some (.int x)] M = _; unfold m_is_whole; simp [isiII, isntB])
theorem whole_b (M : Mem) (x : Bool) : f_is_whole [.bl x] M = .ok (.bl false) M := fn_rt rfl (by show m_is_whole [some (.bl x)] M = _; unfold m_is_whole; cases x <;> simp [isiBI, isntB])
/-- neither whole nor text -/
structure Oth (M : Mem) (d : D) : Prop where
  i : isiD M [d, .ty "int"] = some (.bl false)
  s : isiD M [d, .ty "str"] = some (.bl false)
theorem whole_o (M : Mem) (d : D) (h : Oth M d) : f_is_whole [d] M = .ok (.bl false) M := fn_rt rfl (by show m_is_whole [some d] M = _; unfold m_is_whole; simp [h.i])
theorem key_o (M : Mem) (d : D) (h : isiD M [d, .ty "str"] = some (.bl false)) : f_is_key [d] M = .ok (.bl false) M := fn_rt rfl (by show m_is_key [some d, none] M = _; unfold m_is_key; simp [v_sSeq, h])
theorem word_o (M : Mem) (d : D) (h : isiD M [d, .ty "str"] = some (.bl false)) : f_is_word [d] M = .ok (.bl false) M := fn_rt rfl (by show m_is_word [some d, none] M = _; unfold m_is_word; simp [h])
theorem value_n (M : Mem) (d : D) {wh : Bool} (hn : isB M d .non = some (.bl false)) (h : f_is_whole [d] M = .ok (.bl wh) M) : f_is_value [.str "number", d] M = .ok (.bl wh) M := fn_rt rfl (by show m_is_value [some (.str "number"), some d] M = _; unfold m_is_value; simp [v_sSeq, hn, h])
theorem str_wn : ((("word" : Str) == ("number" : Str)) : Bool) = false := by decide +kernel
theorem value_w (M : Mem) (d : D) {wd : Bool} (hn : isB M d .non = some (.bl false)) (h : f_is_word [d] M = .ok (.bl wd) M) : f_is_value [.str "word", d] M = .ok (.bl wd) M := fn_rt rfl (by show m_is_value [some (.str "word"), some d] M = _; unfold m_is_value; simp [v_sSeq, hn, str_wn, h])
theorem value_0 (M : Mem) (k : D) : f_is_value [k, .non] M = .ok (.bl true) M := fn_rt rfl (by show m_is_value [some k, some .non] M = _; unfold m_is_value; simp [v_sSeq, isB])
def kindS (k : Str) : Bool := (("number" : Str) == k) || (("word" : Str) == k)
theorem isiT {M : Mem} {xs : List D} : isiD M [.tup xs, .ty "tuple"] = some (.bl true) := isi_ok (t := "tuple") rfl (by decide)
theorem isiNT {M : Mem} {d : D} {t : String} (h : tyD M d = some t) (ht : subTy t "tuple" = false) : isiD M [d, .ty "tuple"] = some (.bl false) := by rw [isi_ok h (by decide), ht]
theorem tup2_ok (M : Mem) (xs : List D) (n : Int) : f_is_tuple [.tup xs, .int n] M = .ok (.bl ((xs.length : Int) == n)) M := by
  refine fn_rt rfl ?_
  show m_is_tuple [some (.tup xs), some (.int n)] M = _
  unfold m_is_tuple
  simp [isiT]
theorem tup2_o (M : Mem) (d n : D) (h : isiD M [d, .ty "tuple"] = some (.bl false)) : f_is_tuple [d, n] M = .ok (.bl false) M := by
  refine fn_rt rfl ?_
  show m_is_tuple [some d, some n] M = _
  unfold m_is_tuple
  simp [h]
abbrev colD (p : Str × Str) : D := .tup [.str p.1, .str p.2]
def placeF (nm : Str → Bool) : List (Str × Str) → Nat → Option Nat
  | [], _ => none
  | p :: r, k => if nm p.1 = true then some k else placeF nm r (k + 1)
def oInt (o : Option Nat) : D := match o with | some k => .int (k : Int) | none => .non
def Asks (M : Mem) (d : D) (nm : Str → Bool) : Prop := ∀ x, eqB M (.str x) d = some (.bl (nm x))
noncomputable def caB : MS := sIf (tOf (e2 eqB (e2 idxD (eVar 3) (eC (.int 0))) (eVar 1))) (sRet (eVar 2)) sNil
theorem ca_loop (M : Mem) (d : D) (nm : Str → Bool) (h : Asks M d nm) (a : D) (all : List D) : ∀ (cs : List (Str × Str)) (k : Nat) (o2 o3 : Option D), ∃ p2 p3, forG (gTupM [gSet 2, gSet 3]) caB all none ((cs.map colD).mapIdx fun i x => D.utup [.int ((k + i : Nat) : Int), x]) [some a, some d, o2, o3] M =
    match placeF nm cs k with
    | some j => .rt (.int (j : Int)) M
    | none => .nx [some a, some d, p2, p3] M
  | [], k, o2, o3 => ⟨o2, o3, by
    show forG _ _ all none [] _ M = _
    rw [forG, if_pos guard_none]
    rfl⟩
  | c :: cs, k, o2, o3 => by
    obtain ⟨p2, p3, e⟩ := ca_loop M d nm h a all cs (k + 1) (some (.int ((k : Nat) : Int))) (some (colD c))
    refine ⟨p2, p3, ?_⟩
    rw [List.map_cons, List.mapIdx_cons, forG, if_pos guard_none]
    have e0 : gTupM [gSet 2, gSet 3] (D.utup [.int ((k + 0 : Nat) : Int), colD c]) [some a, some d, o2, o3] = some [some a, some d, some (.int ((k : Nat) : Int)), some (colD c)] := rfl
    have ei : (fun (i : Nat) (x : D) => D.utup [.int ((k + (i + 1) : Nat) : Int), x]) = fun i x => D.utup [.int ((k + 1 + i : Nat) : Int), x] := by
      funext i x
      rw [show k + (i + 1) = k + 1 + i by omega]
    rw [e0]
    dsimp only
    have b1 : caB [some a, some d, some (.int ((k : Nat) : Int)), some (colD c)] M = if nm c.1 = true then .rt (.int ((k : Nat) : Int)) M else .nx [some a, some d, some (.int ((k : Nat) : Int)), some (colD c)] M := by
      unfold caB
      have z := h c.1
      by_cases q : nm c.1 = true
      · simp [z, q]
      · simp [z, q]
    rw [b1]
    unfold placeF
    by_cases q : nm c.1 = true
    · rw [if_pos q, if_pos q]
    · rw [if_neg q, if_neg q]
      dsimp only
      rw [ei]
      exact e
theorem column_at_ok (M : Mem) (d : D) (nm : Str → Bool) (h : Asks M d nm) (cs : List (Str × Str)) : f_column_at [.tup (cs.map colD), d] M = .ok (oInt (placeF nm cs 0)) M := by
  obtain ⟨p2, p3, e⟩ := ca_loop M d nm h (.tup (cs.map colD)) (enumD (cs.map colD)) cs 0 none none
  have ez : (fun (i : Nat) (x : D) => D.utup [.int ((0 + i : Nat) : Int), x]) = fun (i : Nat) (x : D) => D.utup [.int (i : Int), x] := by
    funext i x
    rw [Nat.zero_add]
  rw [ez] at e
  have f : sFor (iEnumM (aCons (eVar 0) aNil)) (gTupM [gSet 2, gSet 3]) caB [some (.tup (cs.map colD)), some d, none, none] M = match placeF nm cs 0 with
    | some j => .rt (.int (j : Int)) M
    | none => .nx [some (.tup (cs.map colD)), some d, p2, p3] M := e
  unfold caB at f
  cases q : placeF nm cs 0 with
  | some j =>
    rw [q] at f
    refine fn_rt rfl ?_
    show m_column_at [some (.tup (cs.map colD)), some d, none, none] M = _
    unfold m_column_at
    exact v_seq_rt f
  | none =>
    rw [q] at f
    refine fn_rt rfl ?_
    show m_column_at [some (.tup (cs.map colD)), some d, none, none] M = _
    unfold m_column_at
    rw [v_seq f]
    rfl
theorem w_addS {M : Mem} {x y : Str} (h : x.length + y.length ≤ 5000) : addD M (.str x) (.str y) = some (.str (x ++ y)) := by
  show (if x.length + y.length ≤ sizeLine then some (D.str (x ++ y)) else none) = _
  rw [if_pos (le_size h)]
theorem w_addT {M : Mem} {xs ys : List D} (h : xs.length + ys.length ≤ 5000) : addD M (.tup xs) (.tup ys) = some (.tup (xs ++ ys)) := by
  show (if xs.length + ys.length ≤ sizeLine then some (D.tup (xs ++ ys)) else none) = _
  rw [if_pos (le_size h)]
theorem cut_from {xs : List D} {n : Nat} : cutL xs (some (n : Int)) none = xs.drop n := by
  unfold cutL
  have h : HT.sIx xs.length 0 (some (n : Int)) = min n xs.length := HT.sIx_nat _ _ _
  have h0 : HT.sIx xs.length xs.length none = xs.length := rfl
  rw [h0, h]
  rcases Nat.le_total n xs.length with e | e
  · rw [Nat.min_eq_left e, List.take_of_length_le]
    rw [List.length_drop]
    exact Nat.le_refl _
  · rw [Nat.min_eq_right e, Nat.sub_self, List.take_zero, List.drop_eq_nil_of_le e]
@[simp] theorem w_cutT {M : Mem} {xs : List D} {lo hi : Option Int} : MM.cutD M (.tup xs) lo hi = some (.tup (cutL xs lo hi)) := rfl
theorem eq_any {M : Mem} {a b : D} {p q : PyData} (h1 : toPy M a = some p) (h2 : toPy M b = some q) (hd : q.depth ≤ 64) : eqB M a b = some (.bl (PyData.eqv p q)) := by
  unfold eqB eqD
  rw [h1, h2]
  dsimp only
  rw [if_pos (Nat.le_trans (Nat.min_le_right _ _) hd)]
  rfl

def kindF (nm : Str → Bool) : List (Str × Str) → D
  | [] => .non
  | p :: r => if nm p.1 = true then .str p.2 else kindF nm r
theorem place_kind (nm : Str → Bool) : ∀ (cs pre : List (Str × Str)), (match placeF nm cs pre.length with | some j => (pre ++ cs)[j]?.map (fun p => D.str p.2) | none => some .non) = some (kindF nm cs)
  | [], pre => rfl
  | c :: cs, pre => by
    unfold placeF kindF
    by_cases q : nm c.1 = true
    · rw [if_pos q, if_pos q]
      simp
    · rw [if_neg q, if_neg q]
      have z := place_kind nm cs (pre ++ [c])
      rw [List.length_append, List.length_singleton, List.append_assoc] at z
      exact z
theorem kind_named_ok (M : Mem) (d : D) (nm : Str → Bool) (h : Asks M d nm) (cs : List (Str × Str)) : f_kind_named [.tup (cs.map colD), d] M = .ok (kindF nm cs) M := by
  refine fn_rt rfl ?_
  show m_kind_named [some (.tup (cs.map colD)), some d, none] M = _
  have c := column_at_ok M d nm h cs
  have z := place_kind nm cs []
  unfold m_kind_named
  rw [List.length_nil] at z
  cases q : placeF nm cs 0 with
  | none =>
    rw [q] at c z
    have z' : kindF nm cs = .non := (Option.some.inj z).symm
    simp [v_sSeq, c, oInt, z']
  | some j =>
    rw [q] at c z
    dsimp only at z
    rw [List.nil_append] at z
    obtain ⟨p, hp, hk⟩ := Option.map_eq_some_iff.mp z
    have i1 : atI (cs.map colD) (j : Int) = some (colD p) := w_ix (k := j) (by rw [List.getElem?_map, hp]; rfl) rfl
    simp [v_sSeq, c, oInt, i1, ← hk]

theorem once_succ (l : List Str) (x : Str) : onceS (l ++ [x]) = stepS (onceS l) x := by
  unfold onceS
  rw [List.foldl_append]
  rfl
theorem once_any (l : List Str) : ∀ x, (onceS l).any (· == x) = l.any (· == x) := by
  have key : ∀ (l acc : List Str) (x : Str), (l.foldl stepS acc).any (· == x) = (acc.any (· == x) || l.any (· == x)) := by
    intro l
    induction l with
    | nil => intro acc x; simp
    | cons y l ih =>
      intro acc x
      rw [List.foldl_cons, ih, stepS_any, List.any_cons, Bool.or_assoc]
      congr 1
      by_cases e : x = y
      · simp [e]
      · have hb : (y == x) = false := beq_eq_false_iff_ne.mpr fun z => e z.symm
        simp [e, hb]
  intro x
  have := key l [] x
  simpa [onceS] using this
theorem once_nodup {l : List Str} (h : l.Nodup) : (onceS l).length = l.length := by
  have key : ∀ (l acc : List Str), (acc ++ l).Nodup → (l.foldl stepS acc).length = acc.length + l.length := by
    intro l
    induction l with
    | nil => intro acc _; simp
    | cons y l ih =>
      intro acc h
      have hn : acc.any (· == y) = false := by
        rw [List.any_eq_false]
        intro z hz e
        have e2 : z = y := by simpa using e
        have d := List.nodup_append.mp h
        exact d.2.2 z hz y (List.mem_cons_self ..) e2
      have e : stepS acc y = acc ++ [y] := by unfold stepS; rw [hn]; rfl
      rw [List.foldl_cons, e, ih (acc ++ [y]) (by rw [List.append_assoc]; exact h)]
      simp only [List.length_append, List.length_cons, List.length_nil]
      omega
  have := key l [] (by simpa using h)
  simpa [onceS] using this
theorem once_dup {l : List Str} {x : Str} (h : x ∈ l) : (onceS (l ++ [x])).length ≤ l.length := by
  have e : (onceS l).any (· == x) = true := by
    rw [once_any, List.any_eq_true]
    exact ⟨x, h, by simp⟩
  rw [once_succ]
  unfold stepS
  rw [e]
  exact onceS_le l


/-! ### what is drawn -/
def Drawn (xs : List Int) : Prop := ∀ x ∈ xs, 0 ≤ x ∧ x < 10 ^ 18 + 9
theorem e18 : ((10 : Int) ^ 18 + 9) = 1000000000000000009 := by decide
theorem w_pow10 {M : Mem} {j : Int} (h : 0 ≤ j ∧ j ≤ 1000000) : powD M (.int 10) (.int j) = some (.int (10 ^ j.toNat)) := w_pow ⟨h.1, h.2, by decide⟩
theorem take_app {M : Mem} {c : Cell} : (M ++ [c]).take M.length = M := by simp
theorem get_app {M : Mem} {c : Cell} : (M ++ [c])[M.length]? = some c := by simp
theorem set_app {M : Mem} {c e : Cell} : (M ++ [c]).set M.length e = M ++ [e] := by simp
theorem append_app {M : Mem} {xs : List D} {d : D} (h : xs.length < sizeLine) : appendD (M ++ [.lst xs]) (.obj M.length) [d] = some (.non, M ++ [.lst (xs ++ [d])]) := by
  unfold appendD
  simp [h]
def dS (M : Mem) (c : Int) (n : Nat) (rest : Int) (num : Option D) (k : Option D) : Sl := [some (.int c), some (.int n), some (.obj M.length), some (.int rest), num, k]
noncomputable def dB1 : MS := sSeq (sExpr (eM "list" appendD (eVar 2) (aCons (e2 modD (eVar 3) (e2 powD (eC (.int 10)) (eC (.int 15)))) aNil))) (sAsg (e2 fdivD (eVar 3) (e2 powD (eC (.int 10)) (eC (.int 15)))) (gSet 3))
noncomputable def dC1 : MX Bool := tAnd2 (tOf (e2 gtB (eVar 3) (eC (.int 1)))) (tOf (e2 ltB (eB lenD (aCons (eVar 2) aNil)) (eVar 1)))
noncomputable def dB2 : MS := sSeq (sAsg (e2 modD (e2 addD (e2 addD (e2 mulD (eVar 4) (eVar 4)) (e2 mulD (eC (.int 48271)) (eVar 4))) (eVar 5)) (e2 addD (e2 powD (eC (.int 10)) (eC (.int 18))) (eC (.int 9)))) (gSet 4))
    (sIf (tOf (e2 gtB (eVar 5) (eC (.int 2)))) (sExpr (eM "list" appendD (eVar 2) (aCons (e2 modD (e2 mulD (eVar 4) (e2 addD (e2 fdivD (eVar 4) (eC (.int 1009))) (eC (.int 69621)))) (e2 addD (e2 powD (eC (.int 10)) (eC (.int 18))) (eC (.int 9)))) aNil))) sNil)
theorem big5 : (5000 : Nat) < sizeLine := by decide
theorem drawn_app {xs : List Int} {x : Int} (h : Drawn xs) (h0 : 0 ≤ x) (h1 : x < 1000000000000000009) : Drawn (xs ++ [x]) := by
  intro y hy
  rcases List.mem_append.mp hy with hy | hy
  · exact h y hy
  · have e : y = x := by simpa using hy
    rw [e, e18]
    exact ⟨h0, h1⟩
theorem mod15 (x : Int) : 0 ≤ x % 1000000000000000 ∧ x % 1000000000000000 < 1000000000000000009 := by omega
theorem mod18 (x : Int) : 0 ≤ x % 1000000000000000009 ∧ x % 1000000000000000009 < 1000000000000000009 := by omega
def dI1 (M : Mem) (c : Int) (n : Nat) (m : Nat) (s : Sl) (M' : Mem) : Prop := ∃ (rest : Int) (xs : List Int), xs.length ≤ n ∧ Drawn xs ∧ s = dS M c n rest none none ∧ M' = M ++ [.lst (xs.map .int)] ∧ m = n - xs.length
def dQ1 (M : Mem) (c : Int) (n : Nat) (s : Sl) (M' : Mem) : Prop := ∃ (rest : Int) (xs : List Int), xs.length ≤ n ∧ Drawn xs ∧ s = dS M c n rest none none ∧ M' = M ++ [.lst (xs.map .int)]
theorem d_st1 (M : Mem) (c : Int) (n : Nat) (hn : n ≤ 1000) (m : Nat) (s : Sl) (M' : Mem) (h : dI1 M c n m s M') : (∃ M1, dC1 s M' = .ok false M1 ∧ dQ1 M c n s M1) ∨
      ∃ M1 s2 M2 n', dC1 s M' = .ok true M1 ∧ (dB1 s M1 = .nx s2 M2 ∨ dB1 s M1 = .ct s2 M2) ∧ n' < m ∧ dI1 M c n n' s2 M2 := by
  have big := big5
  obtain ⟨rest, xs, h1, h2, rfl, rfl, rfl⟩ := h
  by_cases hr : 1 < rest
  · by_cases hl : xs.length < n
    · refine .inr ⟨M ++ [.lst (xs.map .int)], dS M c n (rest / 1000000000000000) none none, M ++ [.lst ((xs ++ [rest % 1000000000000000]).map .int)], n - (xs.length + 1), ?_, .inl ?_, by omega, rest / 1000000000000000, xs ++ [rest % 1000000000000000], by simp; omega, drawn_app h2 (mod15 rest).1 (mod15 rest).2, rfl, rfl, by simp⟩
      · simp [dS, dC1, lenD, hr, hl]
      · have a1 := append_app (M := M) (xs := xs.map .int) (d := .int (rest % 1000000000000000)) (by simp; omega)
        simp [dS, dB1, v_sSeq, tyIs, w_pow10, w_mod, w_fdivS, a1]
    · exact .inl ⟨_, by simp [dS, dC1, lenD, hr, hl], rest, xs, h1, h2, rfl, rfl⟩
  · exact .inl ⟨_, by simp [dS, dC1, hr], rest, xs, h1, h2, rfl, rfl⟩
theorem d_w1 (M : Mem) (c : Int) (n : Nat) (hn : n ≤ 1000) (rest : Int) : ∃ (rest' : Int) (xs : List Int), xs.length ≤ n ∧ Drawn xs ∧ sWhile dC1 dB1 (dS M c n rest none none) (M ++ [.lst []]) = .nx (dS M c n rest' none none) (M ++ [.lst (xs.map .int)]) := by
  obtain ⟨s', M', e, rest', xs, h1, h2, rfl, rfl⟩ := while_inv (dI1 M c n) (dQ1 M c n) (d_st1 M c n hn) (n := n) (s := dS M c n rest none none) (M := M ++ [.lst []]) ⟨rest, [], Nat.zero_le _, by simp [Drawn], rfl, rfl, by simp⟩
  exact ⟨rest', xs, h1, h2, e⟩
def dI2 (M : Mem) (c : Int) (n : Nat) (rest : Int) (m : Nat) (s : Sl) (M' : Mem) : Prop := ∃ (num : Int) (k : Option D) (ys : List Int), s = dS M c n rest (some (.int num)) k ∧ M' = M ++ [.lst (ys.map .int)] ∧ 0 ≤ num ∧ num < 2000000000000000009 ∧ m ≤ ys.length + 3 ∧ ys.length ≤ n + m ∧ Drawn ys
theorem d_st2 (M : Mem) (c : Int) (n : Nat) (hn : n ≤ 1000) (rest : Int) (i : Nat) (d : D) (s : Sl) (M' : Mem) (hd : (rng 0 (n + 3))[i]? = some d) (h : dI2 M c n rest i s M') :
    ∃ s1 s2 M2, gSet 5 d s = some s1 ∧ (dB2 s1 M' = .nx s2 M2 ∨ dB2 s1 M' = .ct s2 M2) ∧ dI2 M c n rest (i + 1) s2 M2 := by
  have big := big5
  obtain ⟨num, k, ys, rfl, rfl, h1, h2, h3, h4, h5⟩ := h
  obtain ⟨hi, rfl⟩ := rng_get hd
  obtain ⟨q0, q1⟩ := mod18 (num * num + 48271 * num + i)
  have m1 : mulD (M ++ [.lst (ys.map .int)]) (.int num) (.int num) = some (.int (num * num)) := w_mulL (by omega) (by omega)
  have m3 : mulD (M ++ [.lst (ys.map .int)]) (.int 48271) (.int num) = some (.int (48271 * num)) := w_mulL (by omega) (by omega)
  generalize eq : (num * num + 48271 * num + i) % 1000000000000000009 = q at q0 q1
  have m2 : mulD (M ++ [.lst (ys.map .int)]) (.int q) (.int (q / 1009 + 69621)) = some (.int (q * (q / 1009 + 69621))) := w_mulL (by omega) (by omega)
  obtain ⟨r0, r1⟩ := mod18 (q * (q / 1009 + 69621))
  generalize er : q * (q / 1009 + 69621) % 1000000000000000009 = r at r0 r1
  by_cases h : 2 < i
  · have a1 := append_app (M := M) (xs := ys.map .int) (d := .int r) (by simp; omega)
    have h' : (2 : Int) < i := by omega
    refine ⟨_, dS M c n rest (some (.int q)) (some (.int i)), M ++ [.lst ((ys ++ [r]).map .int)], rfl, .inl ?_, q, _, _, rfl, rfl, q0, by omega, by simp; omega, by simp; omega, drawn_app h5 r0 r1⟩
    simp [dS, dB2, v_sSeq, tyIs, w_pow10, w_mod, w_fdivS, m3, m1, m2, eq, er, h', a1]
  · have h' : ¬ (2 : Int) < i := by omega
    refine ⟨_, dS M c n rest (some (.int q)) (some (.int i)), M ++ [.lst (ys.map .int)], rfl, .inl ?_, q, _, _, rfl, rfl, q0, by omega, by omega, by omega, h5⟩
    simp [dS, dB2, v_sSeq, w_pow10, w_mod, w_fdivS, m3, m1, eq, h']
theorem d_a1 (M : Mem) (c : Int) (n : Nat) (hn : n ≤ 1000) (rest num : Int) (xs : List Int) : iRange1 (e2 addD (eVar 1) (eC (.int 3))) (dS M c n rest (some (.int num)) none) (M ++ [.lst (xs.map .int)]) = .ok (rng 0 (n + 3), none) (M ++ [.lst (xs.map .int)]) := by
    exact rng1_ok (j := (n : Int) + 3) (by simp [dS]) (by omega) (by omega)
theorem d_a2 (M : Mem) (c : Int) (n : Nat) (hn : n ≤ 1000) (rest num : Int) (xs : List Int) (hx : xs.length ≤ n) (dx : Drawn xs) (n0 : 0 ≤ num) (n1 : num < 2000000000000000009) : dI2 M c n rest 0 (dS M c n rest (some (.int num)) none) (M ++ [.lst (xs.map .int)]) := ⟨num, none, xs, rfl, rfl, n0, n1, Nat.zero_le _, by omega, dx⟩
theorem d_a3 (M : Mem) (c : Int) (n : Nat) (hn : n ≤ 1000) (rest num : Int) (xs : List Int) (h2 : dI2 M c n rest 0 (dS M c n rest (some (.int num)) none) (M ++ [.lst (xs.map .int)])) :  ∃ s' M', sFor (iRange1 (e2 addD (eVar 1) (eC (.int 3)))) (gSet 5) dB2 (dS M c n rest (some (.int num)) none) (M ++ [.lst (xs.map .int)]) = .nx s' M' ∧ dI2 M c n rest (n + 3) s' M' := by
  have := for_inv (tg := gSet 5) (b := dB2) (dI2 M c n rest) (d_a1 M c n hn rest num xs) h2 (d_st2 M c n hn rest)
  rw [rng_len] at this
  exact this
theorem d_a4 (M : Mem) (c : Int) (n : Nat) (hn : n ≤ 1000) (rest : Int) (s' : Sl) (M' : Mem) (h : dI2 M c n rest (n + 3) s' M') : ∃ (num' : Option D) (k : Option D) (ys : List Int), n ≤ ys.length ∧ ys.length ≤ 2 * n + 3 ∧ Drawn ys ∧ s' = dS M c n rest num' k ∧ M' = M ++ [.lst (ys.map .int)] := by
  obtain ⟨num', k, ys, h1, h2, _, _, h3, h4, h5⟩ := h
  exact ⟨_, k, ys, by omega, by omega, h5, h1, h2⟩
theorem d_w2 (M : Mem) (c : Int) (n : Nat) (hn : n ≤ 1000) (rest num : Int) (xs : List Int) (hx : xs.length ≤ n) (dx : Drawn xs) (n0 : 0 ≤ num) (n1 : num < 2000000000000000009) : ∃ (num' : Option D) (k : Option D) (ys : List Int), n ≤ ys.length ∧ ys.length ≤ 2 * n + 3 ∧ Drawn ys ∧
    sFor (iRange1 (e2 addD (eVar 1) (eC (.int 3)))) (gSet 5) dB2 (dS M c n rest (some (.int num)) none) (M ++ [.lst (xs.map .int)]) = .nx (dS M c n rest num' k) (M ++ [.lst (ys.map .int)]) := by
  obtain ⟨s', M', e, h⟩ := d_a3 M c n hn rest num xs (d_a2 M c n hn rest num xs hx dx n0 n1)
  obtain ⟨num', k, ys, h1, h2, h3, rfl, rfl⟩ := d_a4 M c n hn rest s' M' h
  exact ⟨num', k, ys, h1, h2, h3, e⟩
theorem d_run (M : Mem) (c : Int) (n : Nat) (rest rest' : Int) (xs ys : List Int) (num' k : Option D) (hr : rest = if 1000000000000000000000000000000 ≤ c then c - 1000000000000000000000000000000 else 0)
    (e1 : sWhile dC1 dB1 (dS M c n rest none none) (M ++ [.lst []]) = .nx (dS M c n rest' none none) (M ++ [.lst (xs.map .int)]))
    (e2 : sFor (iRange1 (e2 addD (eVar 1) (eC (.int 3)))) (gSet 5) dB2 (dS M c n rest' (some (.int (c % 1000000000000000009 + 48271))) none) (M ++ [.lst (xs.map .int)]) = .nx (dS M c n rest' num' k) (M ++ [.lst (ys.map .int)])) :
    m__law_draws [some (.int c), some (.int n), none, none, none, none] M = .rt (.obj (M.length + 1)) (M ++ [.lst (ys.map .int)] ++ [.lst ((ys.take n).map .int)]) := by
  unfold dC1 dB1 at e1
  unfold dB2 at e2
  unfold m__law_draws
  simp only [dS] at e1 e2
  by_cases hc : 1000000000000000000000000000000 ≤ c
  · rw [if_pos hc] at hr
    subst hr
    simp [v_sSeq, w_pow10, w_mod, hc]
    rw [e1]
    simp [w_pow10, w_mod]
    rw [e2]
    simp [listA, listD, cut_to, List.map_take]
  · rw [if_neg hc] at hr
    subst hr
    simp [v_sSeq, w_pow10, w_mod, hc]
    rw [e1]
    simp [w_pow10, w_mod]
    rw [e2]
    simp [listA, listD, cut_to, List.map_take]
theorem d_num (c : Int) : 0 ≤ c % 1000000000000000009 + 48271 ∧ c % 1000000000000000009 + 48271 < 2000000000000000009 := by omega
theorem f_draws_ok (M : Mem) (c : Int) (n : Nat) (hn : n ≤ 1000) : ∃ xs ys : List Int, xs.length = n ∧ Drawn xs ∧ f__law_draws [.int c, .int n] M = .ok (.obj (M.length + 1)) (M ++ [.lst (ys.map .int)] ++ [.lst (xs.map .int)]) := by
  obtain ⟨rest', xs, x1, x2, e1⟩ := d_w1 M c n hn (if 1000000000000000000000000000000 ≤ c then c - 1000000000000000000000000000000 else 0)
  obtain ⟨num', k, ys, y1, y2, y3, e2⟩ := d_w2 M c n hn rest' (c % 1000000000000000009 + 48271) xs x1 x2 (d_num c).1 (d_num c).2
  refine ⟨ys.take n, ys, by rw [List.length_take]; exact Nat.min_eq_left y1, fun x hx => y3 x (List.mem_of_mem_take hx), fn_rt rfl ?_⟩
  exact d_run M c n _ rest' xs ys num' k rfl e1 e2
theorem refs_ints (n : Nat) : ∀ xs : List Int, refsLts n (xs.map .int) = true
  | [] => rfl
  | x :: xs => by
    rw [List.map_cons, refsLts, refs_ints n xs]
    rfl
theorem draws_ok (M : Mem) (c : Int) (n : Nat) (hn : n ≤ 1000) : ∃ xs : List Int, xs.length = n ∧ Drawn xs ∧ p__law_draws [.int c, .int n] M = .ok (.lst (xs.map .int)) M := by
  obtain ⟨xs, ys, h1, h2, h3⟩ := f_draws_ok M c n hn
  refine ⟨xs, h1, h2, fnP_ok h3 (by simp) ?_⟩
  have g : (M ++ [.lst (ys.map .int)] ++ [.lst (xs.map .int)])[M.length + 1]? = some (Cell.lst (xs.map .int)) := by simp
  rw [frz, if_neg (by omega), g]
  dsimp only
  rw [if_pos (refs_ints _ xs)]

/-! ### the law's own columns -/
def NMs : List Str := ["key", "a", "ab", "at", "up", "mark", "b", "price"]
def NMd : List D := [.str "key", .str "a", .str "ab", .str "at", .str "up", .str "mark", .str "b", .str "price"]
def nmOf (x : Int) (k : Nat) : Str := NMs.getD ((x + 3 * k) % 8).toNat ""
theorem NM_at (x : Int) (k : Nat) : atI NMd ((x + 3 * k) % 8) = some (.str (nmOf x k)) := by
  have key : ∀ j : Nat, j < 8 → NMd[j]? = some (.str (NMs.getD j "")) := by
    intro j hj
    match j, hj with
    | 0, _ => rfl
    | 1, _ => rfl
    | 2, _ => rfl
    | 3, _ => rfl
    | 4, _ => rfl
    | 5, _ => rfl
    | 6, _ => rfl
    | 7, _ => rfl
  exact w_ix (k := ((x + 3 * k) % 8).toNat) (key _ (by omega)) (by omega)
theorem nm_mem (x : Int) (k : Nat) : nmOf x k ∈ NMs := by
  unfold nmOf
  have h : ((x + 3 * k) % 8).toNat < NMs.length := by show _ < 8; omega
  rw [List.getD_eq_getElem?_getD, List.getElem?_eq_getElem h]
  exact List.getElem_mem h
theorem nm_nodup (x : Int) (m : Nat) (hm : m ≤ 8) : ((List.range m).map (nmOf x)).Nodup := by
  have key : ∀ r : Nat, r < 8 → ((List.range 8).map fun k => NMs.getD ((r + 3 * k) % 8) "").Nodup := by decide +kernel
  have e : (List.range 8).map (nmOf x) = (List.range 8).map fun k => NMs.getD (((x % 8).toNat + 3 * k) % 8) "" := by
    apply List.map_congr_left
    intro k _
    unfold nmOf
    congr 1
    omega
  have n8 := key (x % 8).toNat (by omega)
  rw [← e] at n8
  have sub : List.Sublist (List.range m) (List.range 8) := by
    have h : List.range m = (List.range 8).take m := by rw [List.take_range, Nat.min_eq_left hm]
    rw [h]
    exact List.take_sublist _ _
  exact (sub.map _).nodup n8
/-- columns as the law draws them -/
structure Cols (cs : List (Str × Str)) : Prop where
  len : cs.length ≤ 8
  nm : ∀ p ∈ cs, p.1 ∈ NMs
  kd : ∀ p ∈ cs, p.2 = "number" ∨ p.2 = "word"
  nd : (cs.map (·.1)).Nodup
def lN (M : Mem) (ys : List D) (x0 x1 x2 : Int) (fs : List D) : Mem := M ++ [.lst ys, .lst [.int x0, .int x1, .int x2], .lst fs]
theorem lN_1 {M : Mem} {ys : List D} {x0 x1 x2 : Int} {fs : List D} : (lN M ys x0 x1 x2 fs)[M.length + 1]? = some (.lst [.int x0, .int x1, .int x2]) := by simp [lN]
theorem lN_2 {M : Mem} {ys : List D} {x0 x1 x2 : Int} {fs : List D} : (lN M ys x0 x1 x2 fs)[M.length + 2]? = some (.lst fs) := by simp [lN]
theorem lN_s1 {M : Mem} {ys : List D} {x0 x1 x2 y : Int} {fs : List D} : (lN M ys x0 x1 x2 fs).set (M.length + 1) (.lst [.int x0, .int x1, .int y]) = lN M ys x0 x1 y fs := by simp [lN, List.set_append]
theorem lN_s2 {M : Mem} {ys : List D} {x0 x1 x2 : Int} {fs gs : List D} : (lN M ys x0 x1 x2 fs).set (M.length + 2) (.lst gs) = lN M ys x0 x1 x2 gs := by simp [lN, List.set_append]
noncomputable def lcB : MS := sSeq (sExpr (eM "list" appendD (eVar 4) (aCons (eTup (aCons (e2 idxD (eVar 2) (e2 modD (e2 addD (e2 idxD (eVar 1) (eC (.int 1))) (e2 mulD (eC (.int 3)) (eVar 5))) (eC (.int 8)))) (aCons (e2 idxD (eTree (lLst (aCons (eC (.str "number")) (aCons (eC (.str "word")) aNil)))) (e2 modD (e2 idxD (eVar 1) (eC (.int 2))) (eC (.int 2)))) aNil))) aNil)))
    (sSetAt (e2 fdivD (e2 idxD (eVar 1) (eC (.int 2))) (eC (.int 2))) (eVar 1) (eC (.int 2)))
def lcS (M : Mem) (c many : Int) (k : Option D) : Sl := [some (.int c), some (.obj (M.length + 1)), some (.lst NMd), some (.int many), some (.obj (M.length + 2)), k]
def lcI (M : Mem) (ys : List D) (c many x0 x1 : Int) (m : Nat) (s : Sl) (M' : Mem) : Prop := ∃ (x2 : Int) (cs : List (Str × Str)) (k : Option D), s = lcS M c many k ∧ M' = lN M ys x0 x1 x2 (cs.map colD) ∧ cs.map (·.1) = (List.range m).map (nmOf x1) ∧ ∀ p ∈ cs, p.2 = "number" ∨ p.2 = "word"
theorem kd_at (x : Int) : ∃ k : Str, (k = "number" ∨ k = "word") ∧ atI [D.str "number", .str "word"] (x % 2) = some (.str k) := by
  by_cases h : x % 2 = 0
  · exact ⟨"number", .inl rfl, by rw [h]; exact atI_0⟩
  · exact ⟨"word", .inr rfl, by rw [show x % 2 = 1 by omega]; exact atI_1⟩
theorem lc_st (M : Mem) (ys : List D) (c : Int) (n : Nat) (hn : n ≤ 8) (x0 x1 : Int) (i : Nat) (d : D) (s : Sl) (M' : Mem) (hd : (rng 0 n)[i]? = some d) (h : lcI M ys c n x0 x1 i s M') : ∃ s1 s2 M2, gSet 5 d s = some s1 ∧ (lcB s1 M' = .nx s2 M2 ∨ lcB s1 M' = .ct s2 M2) ∧ lcI M ys c n x0 x1 (i + 1) s2 M2 := by
  obtain ⟨x2, cs, k, rfl, rfl, h1, h2⟩ := h
  obtain ⟨hi, rfl⟩ := rng_get hd
  obtain ⟨kd, k1, k2⟩ := kd_at x2
  have cl : cs.length = i := by have := congrArg List.length h1; simpa using this
  have m1 : mulD (lN M ys x0 x1 x2 (cs.map colD)) (.int 3) (.int i) = some (.int (3 * i)) := w_mulL (by omega) (by omega)
  have i1 : ∀ j : Int, idxD (lN M ys x0 x1 x2 (cs.map colD)) (.obj (M.length + 1)) (.int j) = atI [.int x0, .int x1, .int x2] j := fun j => by simp only [idxD, lN_1]
  have n1 := NM_at x1 i
  have a1 : appendD (lN M ys x0 x1 x2 (cs.map colD)) (.obj (M.length + 2)) [.tup [.str (nmOf x1 i), .str kd]] = some (.non, lN M ys x0 x1 x2 (cs.map colD ++ [.tup [.str (nmOf x1 i), .str kd]])) := by
    unfold appendD
    simp only [lN_2]
    have : (cs.map colD).length < sizeLine := by have := big5; simp; omega
    rw [if_pos this, lN_s2]
  have t1 : tyIs "list" (lN M ys x0 x1 x2 (cs.map colD)) (.obj (M.length + 2)) = true := by simp only [tyIs, lN_2]; rfl
  refine ⟨_, lcS M c n (some (.int i)), lN M ys x0 x1 (x2 / 2) ((cs ++ [(nmOf x1 i, kd)]).map colD), rfl, .inl ?_, x2 / 2, cs ++ [(nmOf x1 i, kd)], some (.int i), rfl, rfl, ?_, ?_⟩
  · unfold lcB
    rw [v_seq (s' := lcS M c n (some (.int i))) (M' := lN M ys x0 x1 x2 (cs.map colD ++ [.tup [.str (nmOf x1 i), .str kd]])) (by simp [lcS, t1, i1, m1, w_mod, n1, k2, a1])]
    have i2 : idxD (lN M ys x0 x1 x2 (cs.map colD ++ [.tup [.str (nmOf x1 i), .str kd]])) (.obj (M.length + 1)) (.int 2) = some (.int x2) := by simp only [idxD, lN_1]; exact atI_2
    have s2 : setAt (lN M ys x0 x1 x2 (cs.map colD ++ [.tup [.str (nmOf x1 i), .str kd]])) (.obj (M.length + 1)) (.int 2) (.int (x2 / 2)) = some (lN M ys x0 x1 (x2 / 2) (cs.map colD ++ [.tup [.str (nmOf x1 i), .str kd]])) := by
      unfold setAt
      simp only [lN_1]
      have e : ixN [D.int x0, .int x1, .int x2].length 2 = some 2 := rfl
      rw [e]
      show some ((lN M ys x0 x1 x2 (cs.map colD ++ [.tup [.str (nmOf x1 i), .str kd]])).set (M.length + 1) (.lst [.int x0, .int x1, .int (x2 / 2)])) = _
      rw [lN_s1]
    simp [sSetAt, lcS, i2, w_fdivS, s2]
  · rw [List.map_append, h1, List.range_succ, List.map_append]
    rfl
  · intro p hp
    rcases List.mem_append.mp hp with hp | hp
    · exact h2 p hp
    · simp at hp
      rw [hp]
      exact k1
theorem many_at (x : Int) : ∃ n : Nat, n ≤ 8 ∧ atI [D.int 1, .int 2, .int 3, .int 0, .int 2, .int 1, .int 8, .int 3] (x % 8) = some (.int n) := by
  obtain ⟨d, e, hd⟩ := atI_lt (ds := [D.int 1, .int 2, .int 3, .int 0, .int 2, .int 1, .int 8, .int 3]) (i := x % 8) (by omega) (by show x % 8 < 8; omega)
  have key : ∃ n : Nat, n ≤ 8 ∧ d = .int n := by
    simp only [List.mem_cons, List.not_mem_nil, or_false] at hd
    rcases hd with rfl | rfl | rfl | rfl | rfl | rfl | rfl | rfl
    · exact ⟨1, by omega, rfl⟩
    · exact ⟨2, by omega, rfl⟩
    · exact ⟨3, by omega, rfl⟩
    · exact ⟨0, by omega, rfl⟩
    · exact ⟨2, by omega, rfl⟩
    · exact ⟨1, by omega, rfl⟩
    · exact ⟨8, by omega, rfl⟩
    · exact ⟨3, by omega, rfl⟩
  obtain ⟨n, hn, rfl⟩ := key
  exact ⟨n, hn, e⟩
theorem three {xs : List Int} (h : xs.length = 3) : ∃ a b c, xs = [a, b, c] := by
  match xs, h with
  | [a, b, c], _ => exact ⟨a, b, c, rfl⟩
theorem lc_for (M : Mem) (ys : List D) (c : Int) (n : Nat) (hn : n ≤ 8) (x0 x1 x2 : Int) : ∃ (y2 : Int) (cs : List (Str × Str)) (k : Option D), Cols cs ∧ sFor (iRange1 (eVar 3)) (gSet 5) lcB (lcS M c n none) (lN M ys x0 x1 x2 []) = .nx (lcS M c n k) (lN M ys x0 x1 y2 (cs.map colD)) := by
  have hi : iRange1 (eVar 3) (lcS M c n none) (lN M ys x0 x1 x2 []) = .ok (rng 0 n, none) (lN M ys x0 x1 x2 []) := rng1_ok (j := (n : Int)) rfl rfl (by omega)
  have h0 : lcI M ys c n x0 x1 0 (lcS M c n none) (lN M ys x0 x1 x2 []) := ⟨x2, [], none, rfl, rfl, rfl, by simp⟩
  obtain ⟨s', M', e, h⟩ := for_inv (tg := gSet 5) (b := lcB) (lcI M ys c n x0 x1) hi h0 (lc_st M ys c n hn x0 x1)
  rw [rng_len] at h
  obtain ⟨y2, cs, k, rfl, rfl, h1, h2⟩ := h
  have cl : cs.length = n := by have := congrArg List.length h1; simpa using this
  refine ⟨y2, cs, k, ⟨by omega, fun p hp => ?_, h2, by rw [h1]; exact nm_nodup x1 n hn⟩, e⟩
  have hm : p.1 ∈ (List.range n).map (nmOf x1) := by rw [← h1]; exact List.mem_map.mpr ⟨p, hp, rfl⟩
  obtain ⟨k, _, e⟩ := List.mem_map.mp hm
  rw [← e]
  exact nm_mem x1 k
theorem columns_ok (M : Mem) (c : Int) : ∃ cs M', f__law_columns [.int c] M = .ok (.tup (cs.map colD)) M' ∧ Cols cs := by
  obtain ⟨xs, ys, hl, _, e1⟩ := f_draws_ok M c 3 (by decide)
  obtain ⟨x0, x1, x2, rfl⟩ := three hl
  obtain ⟨n, hn, e2⟩ := many_at x0
  obtain ⟨y2, cs, k, hc, e3⟩ := lc_for M (ys.map .int) c n hn x0 x1 x2
  refine ⟨cs, lN M (ys.map .int) x0 x1 y2 (cs.map colD), fn_rt rfl ?_, hc⟩
  show m__law_columns [some (.int c), none, none, none, none, none] M = _
  unfold m__law_columns
  unfold lcB at e3
  let N1 : Mem := M ++ [.lst (ys.map .int)] ++ [.lst [.int x0, .int x1, .int x2]]
  have e1' : f__law_draws [.int c, .int 3] M = .ok (.obj (M.length + 1)) N1 := e1
  have g1 : idxD N1 (.obj (M.length + 1)) (.int 0) = some (.int x0) := by
    have : N1[M.length + 1]? = some (.lst [.int x0, .int x1, .int x2]) := by simp [N1]
    simp only [idxD, this]
    exact atI_0
  have ln : N1.length = M.length + 2 := by simp [N1]
  have n2 : N1 ++ [.lst []] = lN M (ys.map .int) x0 x1 x2 [] := by simp [N1, lN]
  rw [seq_set (d := .obj (M.length + 1)) (M' := N1) (s' := [some (.int c), some (.obj (M.length + 1)), none, none, none, none]) (by simp [e1']) rfl]
  rw [seq_set (d := .lst NMd) (M' := N1) (s' := [some (.int c), some (.obj (M.length + 1)), some (.lst NMd), none, none, none]) (by simp [NMd]) rfl]
  rw [seq_set (d := .int n) (M' := N1) (s' := [some (.int c), some (.obj (M.length + 1)), some (.lst NMd), some (.int n), none, none]) (by simp [g1, w_mod, e2]) rfl]
  rw [seq_set (d := .obj (M.length + 2)) (M' := lN M (ys.map .int) x0 x1 x2 []) (s' := lcS M c n none) (by simp [ln, n2]) rfl]
  rw [v_seq e3]
  have t : tupleD (lN M (ys.map .int) x0 x1 y2 (cs.map colD)) [.obj (M.length + 2)] = some (.tup (cs.map colD)) := by simp only [tupleD, seqD, listD, lN_2]; rfl
  simp [lcS, t]

theorem comp_rel {α : Type} {it : MI} {tg : TgM} {te : ME} {own : List Nat} {s : Sl} {M M0 : Mem} {l : List α} (f : α → D) (P : α → D → Prop) (hi : it s M0 = .ok (l.map f, none) M) (k : ∀ c ∈ l, ∃ s2 y, tg (f c) (wipeD s own) = some s2 ∧ te s2 M = .ok y M ∧ P c y) (hl : l.length ≤ sizeLine) :
    ∃ g : α → D, lComp it tg tYesM te own s M0 = .ok (l.map g) M ∧ ∀ c ∈ l, P c (g c) := by
  have key : ∀ c : α, ∃ y, c ∈ l → ∃ s2, tg (f c) (wipeD s own) = some s2 ∧ te s2 M = .ok y M ∧ P c y := by
    intro c
    by_cases h : c ∈ l
    · obtain ⟨s2, y, h1, h2, h3⟩ := k c h
      exact ⟨y, fun _ => ⟨s2, h1, h2, h3⟩⟩
    · exact ⟨.non, fun z => absurd z h⟩
  refine ⟨fun c => (key c).choose, comp_over (te := te) (own := own) f (fun c => (key c).choose) hi (fun c hc => ?_) hl, fun c hc => ?_⟩
  · obtain ⟨s2, h1, h2, _⟩ := (key c).choose_spec hc
    exact ⟨s2, h1, h2⟩
  · obtain ⟨_, _, _, h⟩ := (key c).choose_spec hc
    exact h
theorem place_at (nm : Str → Bool) : ∀ (cs : List (Str × Str)) (k j : Nat), (∀ i p, cs[i]? = some p → (nm p.1 = true ↔ i = j)) → j < cs.length → placeF nm cs k = some (k + j)
  | [], _, _, _, hj => absurd hj (Nat.not_lt_zero _)
  | p :: cs, k, j, h, hj => by
    unfold placeF
    by_cases q : nm p.1 = true
    · have e := (h 0 p rfl).mp q
      rw [if_pos q, ← e]
      rfl
    · have hj0 : j ≠ 0 := fun z => q ((h 0 p rfl).mpr z.symm)
      obtain ⟨j', rfl⟩ : ∃ j', j = j' + 1 := ⟨j - 1, by omega⟩
      rw [if_neg q, place_at nm cs (k + 1) j' (fun i p hi => by
        have := h (i + 1) p (by simpa using hi)
        rw [this]
        omega) (by rw [List.length_cons] at hj; omega)]
      congr 1
      omega
theorem cell_at (M : Mem) (ns : List Int) (k : Nat) : ∃ c, f__law_cell_at [.arg (ns.map D.int), .int k] M = .ok (.int c) M := by
  by_cases h : k < ns.length
  · refine ⟨ns[k], fn_rt rfl ?_⟩
    show m__law_cell_at [some (.arg (ns.map D.int)), some (.int k)] M = _
    have h' : (k : Int) < ns.length := by omega
    have i1 : atI (ns.map D.int) (k : Int) = some (.int ns[k]) := w_ix (k := k) (by rw [List.getElem?_map, List.getElem?_eq_getElem h]; rfl) rfl
    unfold m__law_cell_at
    simp [v_sSeq, h, i1]
  · refine ⟨0, fn_rt rfl ?_⟩
    show m__law_cell_at [some (.arg (ns.map D.int)), some (.int k)] M = _
    unfold m__law_cell_at
    simp [v_sSeq, h]
end LW
namespace LW
open PySem PySem.Spec PyProof.Rows L2 MM
def Worth (k : Str) (d : D) : Prop := (∀ M, f_is_value [.str k, d] M = .ok (.bl true) M) ∧ ∀ M, neB M d d = some (.bl false)
def WD8 : List Str := ["", "a", "ab", "b", "a b", "B", "~", "=b"]
theorem WD8_ok : ∀ x ∈ WD8, wdB x = true ∧ x.length ≤ 5000 := by decide +kernel
theorem ne_same {M : Mem} {d : D} {p : PyData} (h : toPy M d = some p) (hd : p.depth ≤ 64) (hs : PyData.eqv p p = true) : neB M d d = some (.bl false) := by
  unfold neB eqD
  rw [h]
  dsimp only
  rw [if_pos (Nat.le_trans (Nat.min_le_left _ _) hd), hs]
  rfl
theorem worth_non (k : Str) : Worth k .non := ⟨fun M => value_0 M _, fun M => ne_same rfl (by simp [PyData.depth]) rfl⟩
theorem worth_int (i : Int) : Worth "number" (.int i) := ⟨fun M => value_n M _ rfl (whole_i M i), fun M => ne_same rfl (by simp [PyData.depth]) (by simp [PyData.eqv])⟩
theorem worth_str {x : Str} (h : x ∈ WD8) : Worth "word" (.str x) := ⟨fun M => value_w M _ rfl (by have z := word_ok M x (WD8_ok x h).2; rw [(WD8_ok x h).1] at z; exact z), fun M => ne_same rfl (by simp [PyData.depth]) (by simp [PyData.eqv])⟩
theorem st5 : (("word" : Str) == ("number" : Str)) = false := by decide +kernel
theorem lv_n (M : Mem) (x : Int) : ∃ d, f__law_value [.str "number", .int x] M = .ok d M ∧ Worth "number" d := by
  by_cases h5 : x % 5 = 4
  · refine ⟨.non, fn_rt rfl ?_, worth_non _⟩
    show m__law_value [some (.str "number"), some (.int x), none] M = _
    unfold m__law_value
    simp [v_sSeq, w_mod, h5]
  · let g : Int := x / 40 % 1000000000000000 * 100000000000000000000000000000000000000000000
    let ds : List D := [.int 0, .int 1, .int 2, .int 10, .int (-1), .int (-2), .int g, .int (0 - g)]
    obtain ⟨d, e, hd⟩ := atI_lt (ds := ds) (i := x / 5 % 8) (by omega) (by show x / 5 % 8 < 8; omega)
    have m1 : mulD M (.int (x / 40 % 1000000000000000)) (.int 100000000000000000000000000000000000000000000) = some (.int g) := w_mulL (by omega) (by omega)
    have hv : Worth "number" d := by
      simp only [ds, List.mem_cons, List.not_mem_nil, or_false] at hd
      rcases hd with rfl | rfl | rfl | rfl | rfl | rfl | rfl | rfl <;> exact worth_int _
    refine ⟨d, fn_rt rfl ?_, hv⟩
    show m__law_value [some (.str "number"), some (.int x), none] M = _
    have e' : atI [D.int 0, .int 1, .int 2, .int 10, .int (-1), .int (-2), .int g, .int (0 - g)] (x / 5 % 8) = some d := e
    unfold m__law_value
    rw [Int.zero_sub] at e'
    generalize g = g' at m1 e'
    simp [v_sSeq, w_mod, w_fdivS, w_pow10, h5, m1, e']
theorem lv_w (M : Mem) (x : Int) : ∃ d, f__law_value [.str "word", .int x] M = .ok d M ∧ Worth "word" d := by
  by_cases h5 : x % 5 = 4
  · refine ⟨.non, fn_rt rfl ?_, worth_non _⟩
    show m__law_value [some (.str "word"), some (.int x), none] M = _
    unfold m__law_value
    simp [v_sSeq, w_mod, h5]
  · obtain ⟨d, e, hd⟩ := atI_lt (ds := [D.str "", .str "a", .str "ab", .str "b", .str "a b", .str "B", .str "~", .str "=b"]) (i := x / 5 % 8) (by omega) (by show x / 5 % 8 < 8; omega)
    have hv : Worth "word" d := by
      simp only [List.mem_cons, List.not_mem_nil, or_false] at hd
      rcases hd with rfl | rfl | rfl | rfl | rfl | rfl | rfl | rfl <;> exact worth_str (by simp [WD8])
    refine ⟨d, fn_rt rfl ?_, hv⟩
    show m__law_value [some (.str "word"), some (.int x), none] M = _
    unfold m__law_value
    simp [v_sSeq, w_mod, w_fdivS, h5, st5, e]
theorem lv_ok (M : Mem) {k : Str} (hk : k = "number" ∨ k = "word") (x : Int) : ∃ d, f__law_value [.str k, .int x] M = .ok d M ∧ Worth k d := by
  rcases hk with rfl | rfl
  · exact lv_n M x
  · exact lv_w M x
def KA : List Str := ["a", "ab", "b", "abc", "z", "a1", "b22", "aa", "m", "m0", "ba", "zzzzzzzzz"]
def KB : List Str := ["", "", "", "", "0", "b7", "zz", "9"]
def KeyD (d : D) : Prop := ∃ x : Str, d = .str x ∧ kyB x = true ∧ x.length ≤ 12
theorem KeyD.ok {d : D} (h : KeyD d) (M : Mem) : f_is_key [d] M = .ok (.bl true) M := by
  obtain ⟨x, rfl, h1, h2⟩ := h
  have z := key_ok M x (by omega)
  rw [h1] at z
  exact z

def a41 : Str := Txt.mul "a" 41
def a13 : Str := Txt.mul "a" 13
theorem mul41 (M : Mem) : mulD M (.str "a") (.int 41) = some (.str a41) := by
  show (if ("a" : Str).length * (41 : Int).toNat ≤ sizeLine ∧ -(2 ^ 63) ≤ (41 : Int) ∧ (41 : Int) ≤ 16777216 then some (D.str (Txt.mul "a" 41)) else none) = _
  rw [if_pos ⟨le_size (by decide +kernel), by decide, by decide⟩]
  rfl
theorem mul13 (M : Mem) : mulD M (.str "a") (.int 13) = some (.str a13) := by
  show (if ("a" : Str).length * (13 : Int).toNat ≤ sizeLine ∧ -(2 ^ 63) ≤ (13 : Int) ∧ (13 : Int) ≤ 16777216 then some (D.str (Txt.mul "a" 13)) else none) = _
  rw [if_pos ⟨le_size (by decide +kernel), by decide, by decide⟩]
  rfl
theorem badw : ∀ x ∈ [a41, "a\n", "\n", "\ta"], wdB x = false ∧ x.length ≤ 5000 := by decide +kernel
theorem badk : ∀ x ∈ (["", "A", "1a", "a b", a13, "a-", " a", "a\n"] : List Str), kyB x = false ∧ x.length ≤ 5000 := by decide +kernel
theorem word_bad (M : Mem) {x : Str} (h : x ∈ [a41, "a\n", "\n", "\ta"]) : f_is_value [.str "word", .str x] M = .ok (.bl false) M :=
  value_w M _ rfl (by have z := word_ok M x (badw x h).2; rw [(badw x h).1] at z; exact z)

theorem cut_head' {xs : List D} {a : Nat} : cutL xs none (some (a : Int)) = xs.take a := cut_to
theorem cut_tail' {xs : List D} {a : Nat} : cutL xs (some ((a : Int) + 1)) none = xs.drop (a + 1) := by
  have e : ((a : Int) + 1) = ((a + 1 : Nat) : Int) := by omega
  rw [e, cut_from]
theorem tup_ne {M : Mem} {xs : List D} {n : Nat} (h : xs.length ≠ n) : f_is_tuple [.tup xs, .int n] M = .ok (.bl false) M := by
  have z := tup2_ok M xs n
  have e : ((xs.length : Int) == (n : Int)) = false := beq_eq_false_iff_ne.mpr (by omega)
  rw [e] at z
  exact z

def wayD (up : Bool) : D := .str (if up then "up" else "down")
def endD (first : Bool) : D := .str (if first then "first" else "last")

theorem KAB : ∀ a ∈ KA, ∀ b ∈ KB, kyB (a ++ b) = true ∧ (a ++ b).length ≤ 12 ∧ a.length + b.length ≤ 5000 ∧ (("ahead" : Str) == (a ++ b)) = false ∧ (("behind" : Str) == (a ++ b)) = false := by decide +kernel
theorem lkey_ok (M : Mem) (x : Int) : ∃ k : Str, f__law_key [.int x] M = .ok (.str k) M ∧ kyB k = true ∧ k.length ≤ 12 ∧ (("ahead" : Str) == k) = false ∧ (("behind" : Str) == k) = false := by
  obtain ⟨a', e1, ha'⟩ := atI_lt (ds := KA.map D.str) (i := x % 12) (by omega) (by show x % 12 < 12; omega)
  obtain ⟨b', e2, hb'⟩ := atI_lt (ds := KB.map D.str) (i := x / 12 % 8) (by omega) (by show x / 12 % 8 < 8; omega)
  obtain ⟨a, ha, rfl⟩ := List.mem_map.mp ha'
  obtain ⟨b, hb, rfl⟩ := List.mem_map.mp hb'
  obtain ⟨k1, k2, k3, k4, k5⟩ := KAB a ha b hb
  refine ⟨a ++ b, fn_rt rfl ?_, k1, k2, k4, k5⟩
  show m__law_key [some (.int x), none] M = _
  have s := w_addS (M := M) k3
  simp only [KA, KB, List.map_cons, List.map_nil] at e1 e2
  unfold m__law_key
  simp [v_sSeq, w_mod, w_fdivS, e1, e2, s]
/-! ### the order drawn -/
structure Part where
  j : Nat
  nm : Str
  kd : Str
  up : Bool
  fi : Bool
def partD (p : Part) : D := .tup [.str p.nm, wayD p.up, endD p.fi]
def orderD (ps : List Part) (up : Bool) : D := .tup [.tup (ps.map partD), wayD up]
structure OrdOk (cs : List (Str × Str)) (ps : List Part) : Prop where
  len : ps.length ≤ 8
  at_ : ∀ p ∈ ps, cs[p.j]? = some (p.nm, p.kd)
  nd : (ps.map (·.j)).Nodup
theorem way_at (x : Int) : ∃ u : Bool, atI [D.str "up", .str "down"] (x % 2) = some (wayD u) := by
  by_cases h : x % 2 = 0
  · exact ⟨true, by rw [h]; exact atI_0⟩
  · exact ⟨false, by rw [show x % 2 = 1 by omega]; exact atI_1⟩
theorem end_at (x : Int) : ∃ u : Bool, atI [D.str "first", .str "last"] (x % 2) = some (endD u) := by
  by_cases h : x % 2 = 0
  · exact ⟨true, by rw [h]; exact atI_0⟩
  · exact ⟨false, by rw [show x % 2 = 1 by omega]; exact atI_1⟩
def jOf (x1 : Int) (n : Nat) (i : Nat) : Nat := ((x1 + i) % (n : Int)).toNat
theorem jOf_inj {x1 : Int} {n a b : Nat} (ha : a < n) (hb : b < n) (h : jOf x1 n a = jOf x1 n b) : a = b := by
  unfold jOf at h
  have hn : (0 : Int) < n := by omega
  have a0 := Int.emod_nonneg (x1 + a) (show (n : Int) ≠ 0 by omega)
  have b0 := Int.emod_nonneg (x1 + b) (show (n : Int) ≠ 0 by omega)
  have e : (x1 + a) % (n : Int) = (x1 + b) % (n : Int) := by omega
  have z := Int.emod_eq_emod_iff_emod_sub_eq_zero.mp e
  have d : (n : Int) ∣ (x1 + a) - (x1 + b) := Int.dvd_of_emod_eq_zero z
  have e2 : (x1 + a) - (x1 + b) = (a : Int) - b := by omega
  rw [e2] at d
  have z2 : (a : Int) - b = 0 := Int.eq_zero_of_dvd_of_natAbs_lt_natAbs d (by omega)
  omega
abbrev LO (cs : List (Str × Str)) (c : Int) (xs : List Int) (many : Int) (N : Nat) (o5 o6 : Option D) : Sl := [some (.tup (cs.map colD)), some (.int c), some (.lst (xs.map .int)), some (.int many), some (.obj N), o5, o6]
noncomputable def loB : MS := (sSeq (sAsg (e2 idxD (e2 idxD (eVar 0) (e2 modD (e2 addD (e2 idxD (eVar 2) (eC (.int 1))) (eVar 5)) (eB lenD (aCons (eVar 0) aNil)))) (eC (.int 0))) (gSet 6))
    (sExpr (eM "list" appendD (eVar 4) (aCons (eTup (aCons (eVar 6) (aCons (e2 idxD (eTree (lLst (aCons (eC (.str "up")) (aCons (eC (.str "down")) aNil)))) (e2 modD (e2 idxD (eVar 2) (e2 addD (eC (.int 2)) (eVar 5))) (eC (.int 2)))) (aCons (e2 idxD (eTree (lLst (aCons (eC (.str "first")) (aCons (eC (.str "last")) aNil)))) (e2 modD (e2 fdivD (e2 idxD (eVar 2) (e2 addD (eC (.int 2)) (eVar 5))) (eC (.int 2))) (eC (.int 2)))) aNil)))) aNil))))
theorem lo_st (M : Mem) {cs : List (Str × Str)} (hC : Cols cs) (c : Int) (xs : List Int) (hx : xs.length = 12) (x1 : Int) (hx1 : xs[1]? = some x1) (n : Nat) (hn : n ≤ cs.length) (i : Nat) (hi : i < n) (ps : List Part) (hl : ps.map (·.j) = (List.range i).map (jOf x1 cs.length)) (hp : ∀ p ∈ ps, cs[p.j]? = some (p.nm, p.kd)) (o6 : Option D) :
    ∃ (ps2 : List Part) (p6 : Option D), loB (LO cs c xs n M.length (some (.int i)) o6) (M ++ [.lst (ps.map partD)]) = .nx (LO cs c xs n M.length (some (.int i)) p6) (M ++ [.lst (ps2.map partD)]) ∧ ps2.map (·.j) = (List.range (i + 1)).map (jOf x1 cs.length) ∧ ∀ p ∈ ps2, cs[p.j]? = some (p.nm, p.kd) := by
  have h8 := hC.len
  have pl : ps.length = i := by have := congrArg List.length hl; simpa using this
  obtain ⟨y, hy⟩ : ∃ x, xs[2 + i]? = some x := ⟨xs[2 + i], List.getElem?_eq_getElem (by omega)⟩
  have i1 : atI (xs.map D.int) 1 = some (.int x1) := w_ix (k := 1) (by rw [List.getElem?_map, hx1]; rfl) rfl
  have i2 : atI (xs.map D.int) (2 + (i : Int)) = some (.int y) := w_ix (k := 2 + i) (by rw [List.getElem?_map, hy]; rfl) (by omega)
  have lp : (0 : Int) < cs.length := by omega
  have a1 : (x1 + i) % (cs.length : Int) < cs.length := Int.emod_lt_of_pos _ lp
  have a0 : 0 ≤ (x1 + i) % (cs.length : Int) := Int.emod_nonneg _ (by omega)
  have hj : (x1 + i) % (cs.length : Int) = (jOf x1 cs.length i : Nat) := by unfold jOf; omega
  generalize ej : jOf x1 cs.length i = j at hj
  have hjl : j < cs.length := by omega
  obtain ⟨p, hp2⟩ : ∃ p, cs[j]? = some p := ⟨cs[j], List.getElem?_eq_getElem hjl⟩
  have i3 : atI (cs.map colD) (j : Int) = some (colD p) := w_ix (k := j) (by rw [List.getElem?_map, hp2]; rfl) rfl
  obtain ⟨u, hu⟩ := way_at y
  obtain ⟨f, hf⟩ := end_at (y / 2)
  let P : Part := ⟨j, p.1, p.2, u, f⟩
  have mm : modD (M ++ [.lst (ps.map partD)]) (.int (x1 + i)) (.int cs.length) = some (.int j) := by rw [w_mod lp, hj]
  have a2 := append_app (M := M) (xs := ps.map partD) (d := partD P) (by rw [List.length_map]; have := big5; omega)
  refine ⟨ps ++ [P], some (.str p.1), ?_, ?_, ?_⟩
  · unfold loB
    rw [seq_set (d := .str p.1) (M' := M ++ [.lst (ps.map partD)]) (s' := LO cs c xs n M.length (some (.int i)) (some (.str p.1))) (by simp [LO, i1, mm, i3]) rfl]
    have a3 : appendD (M ++ [.lst (ps.map partD)]) (.obj M.length) [.tup [.str p.1, wayD u, endD f]] = some (.non, M ++ [.lst ((ps ++ [P]).map partD)]) := by
      rw [List.map_append]
      exact a2
    simp [LO, i2, w_mod, w_fdivS, hu, hf, tyIs, a3]
  · rw [List.map_append, hl, List.range_succ, List.map_append]
    simp [P, ej]
  · intro q hq
    rcases List.mem_append.mp hq with h | h
    · exact hp q h
    · have e : q = P := by simpa using h
      rw [e]
      exact hp2
theorem order_ok (M : Mem) {cs : List (Str × Str)} (hC : Cols cs) (c : Int) : ∃ ps up M', f__law_order [.tup (cs.map colD), .int c] M = .ok (orderD ps up) M' ∧ OrdOk cs ps := by
  have h8 := hC.len
  obtain ⟨xs, hx, _, e1⟩ := draws_ok M c 12 (by decide)
  have e1' : p__law_draws [.int c, .int 12] M = .ok (.lst (xs.map .int)) M := e1
  obtain ⟨x0, hx0⟩ : ∃ x, xs[0]? = some x := ⟨xs[0], List.getElem?_eq_getElem (by omega)⟩
  obtain ⟨x1, hx1⟩ : ∃ x, xs[1]? = some x := ⟨xs[1], List.getElem?_eq_getElem (by omega)⟩
  obtain ⟨x11, hx11⟩ : ∃ x, xs[11]? = some x := ⟨xs[11], List.getElem?_eq_getElem (by omega)⟩
  have i0 : atI (xs.map D.int) 0 = some (.int x0) := w_ix (k := 0) (by rw [List.getElem?_map, hx0]; rfl) rfl
  have i11 : atI (xs.map D.int) 11 = some (.int x11) := w_ix (k := 11) (by rw [List.getElem?_map, hx11]; rfl) rfl
  obtain ⟨m, hm⟩ : ∃ m : Nat, atI [D.int 1, .int 2, .int 0, .int 3, .int 1, .int 2, .int 8, .int 3] (x0 % 8) = some (.int m) := by
    obtain ⟨d, e, hd⟩ := atI_lt (ds := [D.int 1, .int 2, .int 0, .int 3, .int 1, .int 2, .int 8, .int 3]) (i := x0 % 8) (by omega) (by show x0 % 8 < 8; omega)
    simp only [List.mem_cons, List.not_mem_nil, or_false] at hd
    rcases hd with rfl | rfl | rfl | rfl | rfl | rfl | rfl | rfl
    · exact ⟨1, e⟩
    · exact ⟨2, e⟩
    · exact ⟨0, e⟩
    · exact ⟨3, e⟩
    · exact ⟨1, e⟩
    · exact ⟨2, e⟩
    · exact ⟨8, e⟩
    · exact ⟨3, e⟩
  obtain ⟨n, hn, mn⟩ : ∃ n : Nat, n ≤ cs.length ∧ minD M [.int cs.length, .int m] = some (.int n) := by
    by_cases q : (m : Int) < cs.length
    · exact ⟨m, by omega, by show some (D.int (if (m : Int) < cs.length then (m : Int) else cs.length)) = _; rw [if_pos q]⟩
    · exact ⟨cs.length, by omega, by show some (D.int (if (m : Int) < cs.length then (m : Int) else cs.length)) = _; rw [if_neg q]⟩
  obtain ⟨w, hw⟩ := way_at x11
  have hr : iRange1 (eVar 3) (LO cs c xs n M.length none none) (M ++ [.lst []]) = .ok (rng 0 n, none) (M ++ [.lst []]) := rng1_ok (n := n) (j := (n : Int)) rfl rfl (by omega)
  obtain ⟨s', M', e, ps, k, p6, h1, h2, rfl, rfl⟩ := for_inv (tg := gSet 5) (b := loB) (fun i s N => ∃ (ps : List Part) (k p6 : Option D), ps.map (·.j) = (List.range i).map (jOf x1 cs.length) ∧ (∀ p ∈ ps, cs[p.j]? = some (p.nm, p.kd)) ∧ s = LO cs c xs n M.length k p6 ∧ N = M ++ [.lst (ps.map partD)]) hr ⟨[], none, none, rfl, by simp, rfl, rfl⟩ (by
    rintro i d s N hd ⟨ps, k, p6, h1, h2, rfl, rfl⟩
    obtain ⟨hi, rfl⟩ := rng_get hd
    obtain ⟨ps2, q6, e, h3, h4⟩ := lo_st M hC c xs hx x1 hx1 n hn i hi ps h1 h2 p6
    exact ⟨_, _, _, rfl, .inl e, ps2, _, q6, h3, h4, rfl, rfl⟩)
  rw [rng_len] at h1
  have pl : ps.length = n := by have := congrArg List.length h1; simpa using this
  have nd : (ps.map (·.j)).Nodup := by
    rw [h1, List.nodup_iff_pairwise_ne, List.pairwise_map]
    refine List.Pairwise.imp_of_mem ?_ (List.nodup_iff_pairwise_ne.mp List.nodup_range)
    intro a b ha hb hne e
    have ha' : a < n := by simpa using ha
    have hb' : b < n := by simpa using hb
    exact hne (jOf_inj (by omega) (by omega) e)
  refine ⟨ps, w, M ++ [.lst (ps.map partD)], fn_rt rfl ?_, ⟨by omega, h2, nd⟩⟩
  show m__law_order [some (.tup (cs.map colD)), some (.int c), none, none, none, none, none] M = _
  unfold m__law_order
  unfold loB at e
  rw [seq_set (d := .lst (xs.map .int)) (M' := M) (s' := [some (.tup (cs.map colD)), some (.int c), some (.lst (xs.map .int)), none, none, none, none]) (by simp [e1']) rfl]
  rw [seq_set (d := .int n) (M' := M) (s' := [some (.tup (cs.map colD)), some (.int c), some (.lst (xs.map .int)), some (.int n), none, none, none]) (by simp [i0, w_mod, hm, mn]) rfl]
  rw [seq_set (d := .obj M.length) (M' := M ++ [.lst []]) (s' := LO cs c xs n M.length none none) (by simp) rfl]
  rw [v_seq e]
  simp [LO, tupleD, seqD, listD, i11, w_mod, hw]
  unfold orderD
  rfl
theorem OrdOk.names {cs : List (Str × Str)} (hC : Cols cs) {ps : List Part} (h : OrdOk cs ps) : (ps.map (·.nm)).Nodup := by
  have nd := h.nd
  rw [List.nodup_iff_pairwise_ne, List.pairwise_map] at nd ⊢
  refine List.Pairwise.imp_of_mem ?_ nd
  intro p q hp hq ne e
  apply ne
  have h1 := h.at_ p hp
  have h2 := h.at_ q hq
  have g1 : (cs.map (·.1))[p.j]? = some p.nm := by rw [List.getElem?_map, h1]; rfl
  have g2 : (cs.map (·.1))[q.j]? = some p.nm := by rw [List.getElem?_map, h2, e]; rfl
  exact (List.getElem?_inj (by simpa using (List.getElem?_eq_some_iff.mp h1).1) hC.nd).mp (g1.trans g2.symm)
end LW
namespace LW
open PySem PySem.Spec PyProof.Rows L2 MM
/-! ### a part, an order -/
theorem in2 {M : Mem} {x y z : Str} : inB M (.str x) (.tup [.str y, .str z]) = some (.bl (y == x || z == x)) := by
  unfold inB inD
  simp [seqD, toPy, toPys, PyData.depthAll, PyData.depth, PyData.eqv]
theorem in_no {M : Mem} {b : D} {y z : Str} {p : PyData} (h : toPy M b = some p) (hp : ∀ x, p ≠ .str x) : inB M b (.tup [.str y, .str z]) = some (.bl false) := by
  have e : ∀ x : Str, PyData.eqv (.str x) p = false := by
    intro x
    cases p with
    | str y => exact absurd rfl (hp y)
    | _ => simp [PyData.eqv]
  unfold inB inD
  simp [seqD, toPy, toPys, PyData.depth, PyData.depthAll, h, e]
theorem nin_of {M : Mem} {a b : D} {c : Bool} (h : inB M a b = some (.bl c)) : ninB M a b = some (.bl (!c)) := by
  unfold inB at h
  obtain ⟨x, hx, e⟩ := Option.map_eq_some_iff.mp h
  injection e with e
  unfold ninB
  rw [hx, e]
  rfl
theorem way_in {M : Mem} (u : Bool) : inB M (wayD u) k_WAYS = some (.bl true) := by
  unfold k_WAYS wayD
  rw [in2]
  cases u <;> exact congrArg (fun b => some (D.bl b)) (by decide +kernel)
theorem end_in {M : Mem} (u : Bool) : inB M (endD u) k_ENDS = some (.bl true) := by
  unfold k_ENDS endD
  rw [in2]
  cases u <;> exact congrArg (fun b => some (D.bl b)) (by decide +kernel)
theorem end_no {M : Mem} (u : Bool) : inB M (endD u) k_WAYS = some (.bl false) := by
  unfold k_WAYS endD
  rw [in2]
  cases u <;> exact congrArg (fun b => some (D.bl b)) (by decide +kernel)
theorem isb_str {M : Mem} {x : Str} : isB M (.str x) .non = some (.bl false) := rfl
theorem part_3 (M : Mem) (cols a b c kd : D) {x y z : Bool} (hk : f_kind_named [cols, a] M = .ok kd M) (h1 : isB M kd .non = some (.bl x)) (h2 : inB M b k_WAYS = some (.bl y)) (h3 : inB M c k_ENDS = some (.bl z)) : f_is_part [cols, .tup [a, b, c]] M = .ok (.bl (!x && (y && z))) M := by
  refine fn_rt rfl ?_
  show m_is_part [some cols, some (.tup [a, b, c])] M = _
  have t := tup2_ok M [a, b, c] 3
  unfold m_is_part
  cases x <;> cases y <;> simp [v_sSeq, t, hk, h1, h2, h3]
theorem part_k (M : Mem) (cols a b c kd : D) (hk : f_kind_named [cols, a] M = .ok kd M) (h1 : isB M kd .non = some (.bl true)) : f_is_part [cols, .tup [a, b, c]] M = .ok (.bl false) M := by
  refine fn_rt rfl ?_
  show m_is_part [some cols, some (.tup [a, b, c])] M = _
  have t := tup2_ok M [a, b, c] 3
  unfold m_is_part
  simp [v_sSeq, t, hk, h1]
theorem part_w (M : Mem) (cols a b c kd : D) {x : Bool} (hk : f_kind_named [cols, a] M = .ok kd M) (h1 : isB M kd .non = some (.bl x)) (h2 : inB M b k_WAYS = some (.bl false)) : f_is_part [cols, .tup [a, b, c]] M = .ok (.bl false) M := by
  refine fn_rt rfl ?_
  show m_is_part [some cols, some (.tup [a, b, c])] M = _
  have t := tup2_ok M [a, b, c] 3
  unfold m_is_part
  cases x <;> simp [v_sSeq, t, hk, h1, h2]
theorem part_n (M : Mem) (cols : D) (xs : List D) (h : xs.length ≠ 3) : f_is_part [cols, .tup xs] M = .ok (.bl false) M := by
  refine fn_rt rfl ?_
  show m_is_part [some cols, some (.tup xs)] M = _
  have t := tup_ne (M := M) (xs := xs) (n := 3) h
  have t' : f_is_tuple [.tup xs, .int 3] M = .ok (.bl false) M := t
  unfold m_is_part
  simp [v_sSeq, t']
theorem part_o (M : Mem) (cols d : D) (h : isiD M [d, .ty "tuple"] = some (.bl false)) : f_is_part [cols, d] M = .ok (.bl false) M := by
  refine fn_rt rfl ?_
  show m_is_part [some cols, some d] M = _
  have t := tup2_o M d (.int 3) h
  unfold m_is_part
  simp [v_sSeq, t]
theorem kindF_no : ∀ cs : List (Str × Str), kindF (fun _ => false) cs = .non
  | [] => rfl
  | p :: cs => by
    unfold kindF
    rw [if_neg (by simp)]
    exact kindF_no cs
theorem kindF_not {nm : Str} : ∀ {cs : List (Str × Str)}, (∀ p ∈ cs, p.1 ≠ nm) → kindF (fun x => x == nm) cs = .non
  | [], _ => rfl
  | p :: cs, h => by
    unfold kindF
    rw [if_neg (by simpa using h p (by simp))]
    exact kindF_not fun q hq => h q (by simp [hq])
theorem kindF_at {nm kd : Str} : ∀ {cs : List (Str × Str)}, (cs.map (·.1)).Nodup → (nm, kd) ∈ cs → kindF (fun x => x == nm) cs = .str kd
  | [], _, h => by cases h
  | p :: cs, nd, h => by
    rw [List.map_cons, List.nodup_cons] at nd
    unfold kindF
    rcases List.mem_cons.mp h with e | h
    · subst e
      rw [if_pos (by simp)]
    · have ne : p.1 ≠ nm := fun e => nd.1 (by rw [e]; exact List.mem_map.mpr ⟨_, h, rfl⟩)
      rw [if_neg (by simpa using ne)]
      exact kindF_at nd.2 h
theorem kn_at (M : Mem) {cs : List (Str × Str)} (hC : Cols cs) {nm kd : Str} (h : (nm, kd) ∈ cs) : f_kind_named [.tup (cs.map colD), .str nm] M = .ok (.str kd) M := by
  rw [kind_named_ok M (.str nm) (fun x => x == nm) (fun x => w_eqS) cs, kindF_at hC.nd h]
theorem kn_no (M : Mem) (cs : List (Str × Str)) (d : D) {p : PyData} (h : toPy M d = some p) (hp : ∀ x, p ≠ .str x) (hd : p.depth ≤ 64 := by simp [PyData.depth, PyData.depthAll]) : f_kind_named [.tup (cs.map colD), d] M = .ok .non M := by
  have a : Asks M d fun _ => false := by
    intro x
    rw [eq_any (M := M) (a := .str x) (b := d) (p := .str x) (q := p) (by rw [toPy]) h hd]
    cases p with
    | str y => exact absurd rfl (hp y)
    | _ => simp [PyData.eqv]
  rw [kind_named_ok M d _ a cs, kindF_no]
theorem NM_such : ∀ n ∈ NMs, n ≠ ("nosuch" : Str) := by decide +kernel
theorem kn_such (M : Mem) {cs : List (Str × Str)} (hC : Cols cs) : f_kind_named [.tup (cs.map colD), .str "nosuch"] M = .ok .non M := by
  rw [kind_named_ok M (.str "nosuch") (fun x => x == "nosuch") (fun x => w_eqS) cs, kindF_not fun p hp => NM_such p.1 (hC.nm p hp)]
theorem part_good (M : Mem) {cs : List (Str × Str)} (hC : Cols cs) {p : Part} (h : cs[p.j]? = some (p.nm, p.kd)) : f_is_part [.tup (cs.map colD), partD p] M = .ok (.bl true) M :=
  part_3 M _ _ _ _ _ (kn_at M hC (List.mem_of_getElem? h)) isb_str (way_in p.up) (end_in p.fi)
/-! ### check_order -/
theorem co_2 (M : Mem) (cols d : D) (h : f_is_tuple [d, .int 2] M = .ok (.bl false) M) : f_check_order [cols, d] M = .ex "BadOrder" M := by
  refine fn_ex (s' := [some cols, some d, none, none, none]) rfl ?_
  show m_check_order [some cols, some d, none, none, none] M = _
  unfold m_check_order
  simp [v_sSeq, h]
theorem co_way (M : Mem) (cols p w : D) (h : inB M w k_WAYS = some (.bl false)) : f_check_order [cols, .tup [p, w]] M = .ex "BadOrder" M := by
  refine fn_ex (s' := [some cols, some (.tup [p, w]), none, none, none]) rfl ?_
  show m_check_order [some cols, some (.tup [p, w]), none, none, none] M = _
  have t := tup2_ok M [p, w] 2
  have n := nin_of h
  unfold m_check_order
  simp [v_sSeq, t, n]
theorem co_no (M : Mem) (cols p : D) (u : Bool) (h : isiD M [p, .ty "tuple"] = some (.bl false)) : f_check_order [cols, .tup [p, wayD u]] M = .ex "BadOrder" M := by
  refine fn_ex (s' := [some cols, some (.tup [p, wayD u]), some p, none, none]) rfl ?_
  show m_check_order [some cols, some (.tup [p, wayD u]), none, none, none] M = _
  have t := tup2_ok M [p, wayD u] 2
  have n := nin_of (way_in (M := M) u)
  unfold m_check_order
  simp [v_sSeq, t, n, h]
theorem co_long (M : Mem) (cols : D) (ps : List D) (u : Bool) (h : 8 < ps.length) : f_check_order [cols, .tup [.tup ps, wayD u]] M = .ex "BadOrder" M := by
  refine fn_ex (s' := [some cols, some (.tup [.tup ps, wayD u]), some (.tup ps), none, none]) rfl ?_
  show m_check_order [some cols, some (.tup [.tup ps, wayD u]), none, none, none] M = _
  have t := tup2_ok M [.tup ps, wayD u] 2
  have n := nin_of (way_in (M := M) u)
  have h' : (8 : Int) < ps.length := by omega
  unfold m_check_order
  simp [v_sSeq, t, n, isiT, k_MOST_PARTS, h']
theorem co_start (M : Mem) (cols : D) (ps : List D) (u : Bool) (h : ps.length ≤ 8) (b : D → Bool) (hb : ∀ p ∈ ps, f_is_part [cols, p] M = .ok (.bl (b p)) M) {R : RS} {k : MS}
    (h1 : ps.all b = true → k [some cols, some (.tup [.tup ps, wayD u]), some (.tup ps), none, none] M = R) (h2 : ps.all b = false → R = .ex "BadOrder" [some cols, some (.tup [.tup ps, wayD u]), some (.tup ps), none, none] M) :
    (sSeq (sIf (tOr2 (tNot1 (tOf (eCall 2 [] f_is_tuple (aCons (eVar 1) (aCons (eC (.int 2)) aNil))))) (tOf (e2 ninB (e2 idxD (eVar 1) (eC (.int 1))) (eC k_WAYS)))) (sRaise "BadOrder") sNil)
    (sSeq (sAsg (e2 idxD (eVar 1) (eC (.int 0))) (gSet 2))
    (sSeq (sIf (tOr2 (tNot1 (tOf (eB isiD (aCons (eVar 2) (aCons (eC (.ty "tuple")) aNil))))) (tOf (e2 gtB (eB lenD (aCons (eVar 2) aNil)) (eC k_MOST_PARTS)))) (sRaise "BadOrder") sNil)
    (sSeq (sIf (tNot1 (tOf (eB allD (aCons (eTree (lComp (iSeq (eVar 2)) (gSet 4) tYesM (eCall 2 [] f_is_part (aCons (eVar 0) (aCons (eVar 4) aNil))) [4])) aNil)))) (sRaise "BadOrder") sNil) k)))) [some cols, some (.tup [.tup ps, wayD u]), none, none, none] M = R := by
  have t := tup2_ok M [.tup ps, wayD u] 2
  have n := nin_of (way_in (M := M) u)
  have h' : ¬ (8 : Int) < ps.length := by omega
  have e := comp_over (it := iSeq (eVar 2)) (tg := gSet 4) (te := eCall 2 [] f_is_part (aCons (eVar 0) (aCons (eVar 4) aNil))) (own := [4]) (s := [some cols, some (.tup [.tup ps, wayD u]), some (.tup ps), none, none]) (M := M) (M0 := M) (l := ps) id (fun c => D.bl (b c)) (by simp) (fun c hc => ⟨_, rfl, by simp [wipeD, hb c hc]⟩) (le_size (by omega))
  have g := all_list (M := M) b ps
  rw [v_seq (s' := [some cols, some (.tup [.tup ps, wayD u]), none, none, none]) (M' := M) (by simp [t, n])]
  rw [seq_set (d := .tup ps) (M' := M) (s' := [some cols, some (.tup [.tup ps, wayD u]), some (.tup ps), none, none]) (by simp) rfl]
  rw [v_seq (s' := [some cols, some (.tup [.tup ps, wayD u]), some (.tup ps), none, none]) (M' := M) (by simp [isiT, k_MOST_PARTS, h'])]
  cases q : ps.all b with
  | true =>
    rw [q] at g
    rw [v_seq (s' := [some cols, some (.tup [.tup ps, wayD u]), some (.tup ps), none, none]) (M' := M) (by
      simp only [v_sIf, v_tNot, v_tOf, v_B, v_cons, v_Tree, v_nil, e, v_bind, g, v_oo, v_st]
      rfl)]
    exact h1 q
  | false =>
    rw [q] at g
    rw [h2 q]
    refine seq_ex ?_
    simp only [v_sIf, v_tNot, v_tOf, v_B, v_cons, v_Tree, v_nil, e, v_bind, g, v_oo, v_st]
    rfl
theorem co_bad (M : Mem) (cols : D) (ps : List D) (u : Bool) (h : ps.length ≤ 8) (b : D → Bool) (hb : ∀ p ∈ ps, f_is_part [cols, p] M = .ok (.bl (b p)) M) (ha : ps.all b = false) : f_check_order [cols, .tup [.tup ps, wayD u]] M = .ex "BadOrder" M := by
  refine fn_ex (s' := [some cols, some (.tup [.tup ps, wayD u]), some (.tup ps), none, none]) rfl ?_
  show m_check_order [some cols, some (.tup [.tup ps, wayD u]), none, none, none] M = _
  unfold m_check_order
  exact co_start M cols ps u h b hb (fun z => by rw [ha] at z; cases z) fun _ => rfl
theorem strsD_nm (l : List Part) : strsD (l.map fun p => D.str p.nm) = some (l.map (·.nm)) := by
  induction l with
  | nil => rfl
  | cons p l ih =>
    rw [List.map_cons, strsD, ih]
    rfl
theorem co_names (M : Mem) {cs : List (Str × Str)} (hC : Cols cs) (ps : List Part) (u : Bool) (h : ps.length ≤ 8) (hp : ∀ p ∈ ps, cs[p.j]? = some (p.nm, p.kd)) : f_check_order [.tup (cs.map colD), orderD ps u] M = if (onceS (ps.map (·.nm))).length = ps.length then .ok .non M else .ex "BadOrder" M := by
  have run : m_check_order [some (.tup (cs.map colD)), some (orderD ps u), none, none, none] M = if (onceS (ps.map (·.nm))).length = ps.length then .nx [some (.tup (cs.map colD)), some (orderD ps u), some (.tup (ps.map partD)), some (.lst (ps.map fun p => D.str p.nm)), none] M else .ex "BadOrder" [some (.tup (cs.map colD)), some (orderD ps u), some (.tup (ps.map partD)), some (.lst (ps.map fun p => D.str p.nm)), none] M := by
    unfold m_check_order orderD
    refine co_start M _ _ u (by simpa using h) (fun _ => true) (fun d hd => ?_) (fun _ => ?_) fun z => by simp at z
    · obtain ⟨p, hq, rfl⟩ := List.mem_map.mp hd
      exact part_good M hC (hp p hq)
    · have e := comp_over (it := iSeq (eVar 2)) (tg := gSet 4) (te := e2 idxD (eVar 4) (eC (.int 0))) (own := [4]) (s := [some (.tup (cs.map colD)), some (.tup [.tup (ps.map partD), wayD u]), some (.tup (ps.map partD)), none, none]) (M := M) (M0 := M) (l := ps) partD (fun p => D.str p.nm) (by simp) (fun p _ => ⟨_, rfl, by simp [wipeD, partD]⟩) (le_size (by omega))
      rw [v_seq (s' := [some (.tup (cs.map colD)), some (.tup [.tup (ps.map partD), wayD u]), some (.tup (ps.map partD)), some (.lst (ps.map fun p => D.str p.nm)), none]) (M' := M) (by
        simp only [v_sSetC, v_sAsg, Bool.false_eq_true, if_false, v_Tree, e, v_bind, v_st]
        rfl)]
      have ls : eLenSet (eVar 3) [some (.tup (cs.map colD)), some (.tup [.tup (ps.map partD), wayD u]), some (.tup (ps.map partD)), some (.lst (ps.map fun p => D.str p.nm)), none] M = .ok (.int (onceS (ps.map (·.nm))).length) M := by
        unfold eLenSet
        simp only [v_var3, v_var2, v_var1, v_var0, v_bind, listD, Option.bind_some, strsD_nm]
        rw [if_pos (by simp; omega)]
      simp only [v_sIf, v_tOf, v_e2, ls, v_bind, v_B, v_cons, v_nil, v_var3, v_var2, v_var1, v_var0, w_lenL, v_oo, w_neI, v_st, List.length_map]
      by_cases q : (onceS (ps.map (·.nm))).length = ps.length
      · simp [q]
      · have q' : ¬ ((onceS (ps.map (·.nm))).length : Int) = ps.length := by omega
        simp [q, q']
  by_cases q : (onceS (ps.map (·.nm))).length = ps.length
  · rw [if_pos q] at run ⊢
    exact fn_nx rfl run
  · rw [if_neg q] at run ⊢
    exact fn_ex rfl run
theorem co_ok (M : Mem) {cs : List (Str × Str)} (hC : Cols cs) {ps : List Part} (hO : OrdOk cs ps) (u : Bool) : f_check_order [.tup (cs.map colD), orderD ps u] M = .ok .non M := by
  rw [co_names M hC ps u hO.len hO.at_, if_pos]
  have := once_nodup (hO.names hC)
  simpa using this
theorem co_twice (M : Mem) {cs : List (Str × Str)} (hC : Cols cs) {ps : List Part} (hO : OrdOk cs ps) (u : Bool) {p : Part} (hp : p ∈ ps) : f_check_order [.tup (cs.map colD), .tup [.tup (ps.map partD ++ [partD p]), wayD u]] M = .ex "BadOrder" M := by
  by_cases h8 : ps.length = 8
  · exact co_long M _ _ u (by simp; omega)
  · have h := hO.len
    have e : D.tup [.tup (ps.map partD ++ [partD p]), wayD u] = orderD (ps ++ [p]) u := by unfold orderD; simp
    have ds := once_dup (l := ps.map (·.nm)) (x := p.nm) (List.mem_map.mpr ⟨p, hp, rfl⟩)
    rw [e, co_names M hC (ps ++ [p]) u (by simp; omega) (fun q hq => by
      rcases List.mem_append.mp hq with hq | hq
      · exact hO.at_ q hq
      · have e : q = p := by simpa using hq
        rw [e]
        exact hO.at_ p hp)]
    rw [if_neg]
    rw [List.map_append]
    simp only [List.length_map] at ds
    simp only [List.length_append, List.length_singleton, List.map_cons, List.map_nil]
    omega
open Classical in
/-- all good but one -/
theorem co_odd (M : Mem) {cs : List (Str × Str)} (hC : Cols cs) {as bs : List D} {o : D} (u : Bool) (hg : ∀ d ∈ as ++ bs, f_is_part [.tup (cs.map colD), d] M = .ok (.bl true) M) (ho : f_is_part [.tup (cs.map colD), o] M = .ok (.bl false) M) : f_check_order [.tup (cs.map colD), .tup [.tup (as ++ [o] ++ bs), wayD u]] M = .ex "BadOrder" M := by
  by_cases h8 : (as ++ [o] ++ bs).length ≤ 8
  · have ne : ¬ f_is_part [.tup (cs.map colD), o] M = .ok (.bl true) M := by
      rw [ho]
      intro z
      cases z
    refine co_bad M _ _ u h8 (fun c => decide (f_is_part [.tup (cs.map colD), c] M = .ok (.bl true) M)) (fun c hc => ?_) ?_
    · have h : c ∈ as ++ bs ∨ c = o := by
        simp only [List.mem_append, List.mem_singleton] at hc ⊢
        rcases hc with (h | h) | h
        · exact .inl (.inl h)
        · exact .inr h
        · exact .inl (.inr h)
      rcases h with h | h
      · rw [decide_eq_true (hg c h)]
        exact hg c h
      · subst h
        rw [decide_eq_false ne]
        exact ho
    · rw [List.all_eq_false]
      exact ⟨o, by simp, by simp [ne]⟩
  · exact co_long M _ _ u (by omega)
end LW
namespace LW
open PySem PySem.Spec PyProof.Rows L2 MM
/-! ### check_place, check_gap -/
theorem pt0 {M : Mem} {p : Part} : idxD M (partD p) (.int 0) = some (.str p.nm) := by unfold partD; simp
theorem ord0 {M : Mem} {ps : List Part} {u : Bool} : idxD M (orderD ps u) (.int 0) = some (.tup (ps.map partD)) := by unfold orderD; simp
abbrev LC (cols : D) (ps : List Part) (u : Bool) (d : D) (o3 o4 : Option D) : Sl := [some cols, some (orderD ps u), some d, o3, o4]
noncomputable def cpB : MS := sIf (tNot1 (tOf (eCall 2 [] f_is_value (aCons (eCall 2 [] f_kind_named (aCons (eVar 0) (aCons (e2 idxD (eVar 3) (eC (.int 0))) aNil))) (aCons (eVar 4) aNil))))) (sRaise "BadPlace") sNil
theorem cp_2 (M : Mem) (cols d : D) (ps : List Part) (u : Bool) (h : f_is_tuple [d, .int 2] M = .ok (.bl false) M) : f_check_place [cols, orderD ps u, d] M = .ex "BadPlace" M := by
  refine fn_ex (s' := LC cols ps u d none none) rfl ?_
  show m_check_place (LC cols ps u d none none) M = _
  unfold m_check_place
  simp [v_sSeq, LC, h]
theorem cp_v (M : Mem) (cols v k : D) (ps : List Part) (u : Bool) (h : f_is_tuple [v, .int ps.length] M = .ok (.bl false) M) : f_check_place [cols, orderD ps u, .tup [v, k]] M = .ex "BadPlace" M := by
  refine fn_ex (s' := LC cols ps u (.tup [v, k]) none none) rfl ?_
  show m_check_place (LC cols ps u (.tup [v, k]) none none) M = _
  have t := tup2_ok M [v, k] 2
  unfold m_check_place
  simp [v_sSeq, LC, t, ord0, h]
theorem tup_eq {M : Mem} {xs : List D} {n : Nat} (h : xs.length = n) : f_is_tuple [.tup xs, .int n] M = .ok (.bl true) M := by
  have z := tup2_ok M xs n
  rw [h, beq_self_eq_true] at z
  exact z
theorem cp_k (M : Mem) (cols k : D) (vs : List D) (ps : List Part) (u : Bool) (hl : vs.length = ps.length) (h : f_is_key [k] M = .ok (.bl false) M) : f_check_place [cols, orderD ps u, .tup [.tup vs, k]] M = .ex "BadPlace" M := by
  refine fn_ex (s' := LC cols ps u (.tup [.tup vs, k]) none none) rfl ?_
  show m_check_place (LC cols ps u (.tup [.tup vs, k]) none none) M = _
  have t := tup2_ok M [.tup vs, k] 2
  have t2 := tup_eq (M := M) hl
  unfold m_check_place
  simp [v_sSeq, LC, t, ord0, t2, h]
theorem cp_loop (M : Mem) {cs : List (Str × Str)} (hC : Cols cs) (O P : D) (all : List D) (b : Part × D → Bool) : ∀ (l : List (Part × D)), (∀ q ∈ l, cs[q.1.j]? = some (q.1.nm, q.1.kd) ∧ f_is_value [.str q.1.kd, q.2] M = .ok (.bl (b q)) M) → ∀ (o3 o4 : Option D), ∃ p3 p4, forG (gTupM [gSet 3, gSet 4]) cpB all none (l.map fun q => D.utup [partD q.1, q.2]) [some (.tup (cs.map colD)), some O, some P, o3, o4] M =
    if l.all b = true then .nx [some (.tup (cs.map colD)), some O, some P, p3, p4] M else .ex "BadPlace" [some (.tup (cs.map colD)), some O, some P, p3, p4] M
  | [], _, o3, o4 => ⟨o3, o4, by rw [List.map_nil, forG, if_pos guard_none]; rfl⟩
  | q :: l, h, o3, o4 => by
    obtain ⟨h1, h2⟩ := h q (by simp)
    have kn := kn_at M hC (List.mem_of_getElem? h1)
    have e0 : gTupM [gSet 3, gSet 4] (D.utup [partD q.1, q.2]) [some (.tup (cs.map colD)), some O, some P, o3, o4] = some [some (.tup (cs.map colD)), some O, some P, some (partD q.1), some q.2] := rfl
    cases hb : b q with
    | true =>
      rw [hb] at h2
      obtain ⟨p3, p4, e⟩ := cp_loop M hC O P all b l (fun r hr => h r (by simp [hr])) (some (partD q.1)) (some q.2)
      refine ⟨p3, p4, ?_⟩
      have b1 : cpB [some (.tup (cs.map colD)), some O, some P, some (partD q.1), some q.2] M = .nx [some (.tup (cs.map colD)), some O, some P, some (partD q.1), some q.2] M := by
        unfold cpB
        simp [pt0, kn, h2]
      rw [List.map_cons, forG, if_pos guard_none, e0]
      dsimp only
      rw [b1]
      rw [List.all_cons, hb, Bool.true_and]
      exact e
    | false =>
      rw [hb] at h2
      refine ⟨some (partD q.1), some q.2, ?_⟩
      have b1 : cpB [some (.tup (cs.map colD)), some O, some P, some (partD q.1), some q.2] M = .ex "BadPlace" [some (.tup (cs.map colD)), some O, some P, some (partD q.1), some q.2] M := by
        unfold cpB
        simp [pt0, kn, h2]
      rw [List.map_cons, forG, if_pos guard_none, e0]
      dsimp only
      rw [b1]
      rw [List.all_cons, hb, Bool.false_and]
      rfl
theorem zip_mapP (ps : List Part) (vs : List D) : zipD (ps.map partD) vs = (ps.zip vs).map fun q => D.utup [partD q.1, q.2] := by
  unfold zipD
  rw [List.zipWith_map_left, List.zip, List.map_zipWith]
theorem cp_all (M : Mem) {cs : List (Str × Str)} (hC : Cols cs) {ps : List Part} (hO : OrdOk cs ps) (u : Bool) (k : D) (vs : List D) (b : Part × D → Bool) (hk : f_is_key [k] M = .ok (.bl true) M) (hl : vs.length = ps.length) (hv : ∀ q ∈ ps.zip vs, f_is_value [.str q.1.kd, q.2] M = .ok (.bl (b q)) M) :
    f_check_place [.tup (cs.map colD), orderD ps u, .tup [.tup vs, k]] M = if (ps.zip vs).all b = true then .ok .non M else .ex "BadPlace" M := by
  have t := tup2_ok M [.tup vs, k] 2
  have t2 := tup_eq (M := M) hl
  obtain ⟨p3, p4, e⟩ := cp_loop M hC (orderD ps u) (.tup [.tup vs, k]) (zipD (ps.map partD) vs) b (ps.zip vs) (fun q hq => ⟨hO.at_ q.1 (List.of_mem_zip hq).1, hv q hq⟩) none none
  have run : m_check_place (LC (.tup (cs.map colD)) ps u (.tup [.tup vs, k]) none none) M = if (ps.zip vs).all b = true then .nx (LC (.tup (cs.map colD)) ps u (.tup [.tup vs, k]) p3 p4) M else .ex "BadPlace" (LC (.tup (cs.map colD)) ps u (.tup [.tup vs, k]) p3 p4) M := by
    unfold m_check_place
    rw [v_seq (s' := LC (.tup (cs.map colD)) ps u (.tup [.tup vs, k]) none none) (M' := M) (by simp [LC, t, ord0, t2, hk])]
    have hi : iZipM (aCons (e2 idxD (eVar 1) (eC (.int 0))) (aCons (e2 idxD (eVar 2) (eC (.int 0))) aNil)) (LC (.tup (cs.map colD)) ps u (.tup [.tup vs, k]) none none) M = .ok (zipD (ps.map partD) vs, none) M := by
      unfold iZipM
      simp [LC, ord0]
    unfold sFor
    rw [hi]
    unfold cpB at e
    rw [← zip_mapP] at e
    exact e
  by_cases q : (ps.zip vs).all b = true
  · rw [if_pos q] at run ⊢
    exact fn_nx rfl run
  · rw [if_neg q] at run ⊢
    exact fn_ex rfl run
/-- the values of a place -/
def ValsOk (ps : List Part) (vs : List D) : Prop := vs.length = ps.length ∧ ∀ q ∈ ps.zip vs, Worth q.1.kd q.2
theorem cp_ok (M : Mem) {cs : List (Str × Str)} (hC : Cols cs) {ps : List Part} (hO : OrdOk cs ps) (u : Bool) (k : D) (vs : List D) (hk : f_is_key [k] M = .ok (.bl true) M) (hv : ValsOk ps vs) : f_check_place [.tup (cs.map colD), orderD ps u, .tup [.tup vs, k]] M = .ok .non M := by
  rw [cp_all M hC hO u k vs (fun _ => true) hk hv.1 fun q hq => (hv.2 q hq).1 M, if_pos (by simp)]
open Classical in
theorem cp_odd (M : Mem) {cs : List (Str × Str)} (hC : Cols cs) {ps : List Part} (hO : OrdOk cs ps) (u : Bool) (k : D) (vs : List D) (a : Nat) (o : D) (hk : f_is_key [k] M = .ok (.bl true) M) (hv : ValsOk ps vs) {p : Part} (hp : ps[a]? = some p) (ho : f_is_value [.str p.kd, o] M = .ok (.bl false) M) :
    f_check_place [.tup (cs.map colD), orderD ps u, .tup [.tup (vs.take a ++ [o] ++ vs.drop (a + 1)), k]] M = .ex "BadPlace" M := by
  have hl := hv.1
  have hal : a < ps.length := (List.getElem?_eq_some_iff.mp hp).1
  have hl2 : (vs.take a ++ [o] ++ vs.drop (a + 1)).length = ps.length := by simp; omega
  have ne : ∀ q : Part × D, f_is_value [.str q.1.kd, q.2] M = .ok (.bl false) M → ¬ f_is_value [.str q.1.kd, q.2] M = .ok (.bl true) M := fun q h z => by rw [h] at z; cases z
  have at_ : ∀ (i : Nat) (q : Part × D), (ps.zip (vs.take a ++ [o] ++ vs.drop (a + 1)))[i]? = some q → (i = a ∧ q = (p, o)) ∨ (i ≠ a ∧ q ∈ ps.zip vs) := by
    intro i q h
    rw [List.getElem?_zip_eq_some] at h
    obtain ⟨h1, h2⟩ := h
    by_cases e : i = a
    · subst e
      left
      refine ⟨rfl, ?_⟩
      have e1 : q.1 = p := by rw [hp] at h1; exact (Option.some.inj h1).symm
      have e2 : q.2 = o := by
        rw [List.append_assoc, List.getElem?_append_right (by simp; omega)] at h2
        have : i - (vs.take i).length = 0 := by simp; omega
        rw [this] at h2
        exact (Option.some.inj h2).symm
      exact Prod.ext e1 e2
    · right
      refine ⟨e, ?_⟩
      have h3 : vs[i]? = some q.2 := by
        by_cases hi : i < a
        · rw [List.append_assoc, List.getElem?_append_left (by simp; omega), List.getElem?_take_of_lt hi] at h2
          exact h2
        · rw [List.getElem?_append_right (by simp; omega)] at h2
          rw [List.getElem?_drop] at h2
          have : a + 1 + (i - (vs.take a ++ [o]).length) = i := by simp; omega
          rw [this] at h2
          exact h2
      exact List.mem_of_getElem? (i := i) (List.getElem?_zip_eq_some.mpr ⟨h1, h3⟩)
  have hb : ∀ q ∈ ps.zip (vs.take a ++ [o] ++ vs.drop (a + 1)), f_is_value [.str q.1.kd, q.2] M = .ok (.bl (decide (f_is_value [.str q.1.kd, q.2] M = .ok (.bl true) M))) M := by
    intro q hq
    obtain ⟨i, hi⟩ := List.mem_iff_getElem?.mp hq
    rcases at_ i q hi with ⟨_, e⟩ | ⟨_, h⟩
    · rw [decide_eq_false (ne q (by rw [e]; exact ho)), e]
      exact ho
    · rw [decide_eq_true ((hv.2 q h).1 M)]
      exact (hv.2 q h).1 M
  rw [cp_all M hC hO u k _ _ hk hl2 hb, if_neg]
  intro z
  have h0 : (p, o) ∈ ps.zip (vs.take a ++ [o] ++ vs.drop (a + 1)) := by
    refine List.mem_of_getElem? (i := a) (List.getElem?_zip_eq_some.mpr ⟨hp, ?_⟩)
    rw [List.append_assoc, List.getElem?_append_right (by rw [List.length_take]; exact Nat.min_le_left _ _)]
    have : a - (vs.take a).length = 0 := by simp; omega
    rw [this]
    rfl
  have h1 := List.all_eq_true.mp z _ h0
  exact ne (p, o) ho (of_decide_eq_true h1)
def sideD (be : Bool) : D := .str (if be then "behind" else "ahead")
theorem side_in {M : Mem} (u : Bool) : inB M (sideD u) k_SIDES = some (.bl true) := by
  unfold k_SIDES sideD
  rw [in2]
  cases u <;> exact congrArg (fun b => some (D.bl b)) (by decide +kernel)
theorem cg_2 (M : Mem) (cols o d : D) (h : f_is_tuple [d, .int 2] M = .ok (.bl false) M) : f_check_gap [cols, o, d] M = .ex "BadPlace" M := by
  refine fn_ex (s' := [some cols, some o, some d]) rfl ?_
  show m_check_gap [some cols, some o, some d] M = _
  unfold m_check_gap
  simp [v_sSeq, h]
theorem cg_side (M : Mem) (cols o p s : D) (h : inB M s k_SIDES = some (.bl false)) : f_check_gap [cols, o, .tup [p, s]] M = .ex "BadPlace" M := by
  refine fn_ex (s' := [some cols, some o, some (.tup [p, s])]) rfl ?_
  show m_check_gap [some cols, some o, some (.tup [p, s])] M = _
  have t := tup2_ok M [p, s] 2
  have n := nin_of h
  unfold m_check_gap
  simp [v_sSeq, t, n]
theorem cg_place (M : Mem) (cols o p : D) (be : Bool) (h : f_check_place [cols, o, p] M = .ex "BadPlace" M) : f_check_gap [cols, o, .tup [p, sideD be]] M = .ex "BadPlace" M := by
  refine fn_ex (s' := [some cols, some o, some (.tup [p, sideD be])]) rfl ?_
  show m_check_gap [some cols, some o, some (.tup [p, sideD be])] M = _
  have t := tup2_ok M [p, sideD be] 2
  have n := nin_of (side_in (M := M) be)
  unfold m_check_gap
  simp [v_sSeq, t, n, h]
theorem cg_ok (M : Mem) (cols o p : D) (be : Bool) (h : f_check_place [cols, o, p] M = .ok .non M) : f_check_gap [cols, o, .tup [p, sideD be]] M = .ok .non M := by
  refine fn_nx (s' := [some cols, some o, some (.tup [p, sideD be])]) rfl ?_
  show m_check_gap [some cols, some o, some (.tup [p, sideD be])] M = _
  have t := tup2_ok M [p, sideD be] 2
  have n := nin_of (side_in (M := M) be)
  unfold m_check_gap
  simp [v_sSeq, t, n, h]
/-! ### refused -/
def yesAt (i : Nat) : D := .lst ((List.range 4).map fun k => D.bl (k == i))
theorem refused_0 (M : Mem) (cols o g : D) (h : f_check_order [cols, o] M = .ex "BadOrder" M) : f__law_refused [cols, o, g, .int 0] M = .ok (.lst [.bl true, .bl false, .bl false, .bl false]) M := by
  refine fn_rt rfl ?_
  show m__law_refused [some cols, some o, some g, some (.int 0), none, none] M = _
  have l1 : ktA.lookup ("BadOrder", "BadOrder") = some true := by decide +kernel
  have l2 : ktA.lookup ("BadOrder", "BadPlace") = some false := by decide +kernel
  have l3 : ktA.lookup ("BadOrder", "BadSieve") = some false := by decide +kernel
  have l4 : ktA.lookup ("BadOrder", "BadColumns") = some false := by decide +kernel
  have d1 : dCls (.glo "BadOrder") = some "BadOrder" := by decide +kernel
  have d2 : dCls (.glo "BadPlace") = some "BadPlace" := by decide +kernel
  have d3 : dCls (.glo "BadSieve") = some "BadSieve" := by decide +kernel
  have d4 : dCls (.glo "BadColumns") = some "BadColumns" := by decide +kernel
  unfold m__law_refused
  rw [seq_set (d := .lst []) (M' := M) (s' := [some cols, some o, some g, some (.int 0), some (.lst []), none]) (by simp) rfl]
  rw [v_seq (s' := [some cols, some o, some g, some (.int 0), some (.lst [.bl true, .bl false, .bl false, .bl false]), none]) (M' := M) (try_ex (c := "BadOrder") (s' := [some cols, some o, some g, some (.int 0), some (.lst []), none]) (M' := M) (by simp [h]) (by decide +kernel) fun a => by
    simp [v_sSeq, isED, d1, d2, d3, d4, l1, l2, l3, l4, unS])]
  rfl
theorem refused_1 (M : Mem) (cols o g w : D) (hw : (w = .int 1 ∧ f_check_place [cols, o, g] M = .ex "BadPlace" M) ∨ (w = .int 2 ∧ f_check_gap [cols, o, g] M = .ex "BadPlace" M)) : f__law_refused [cols, o, g, w] M = .ok (.lst [.bl false, .bl true, .bl false, .bl false]) M := by
  refine fn_rt rfl ?_
  show m__law_refused [some cols, some o, some g, some w, none, none] M = _
  have l1 : ktA.lookup ("BadPlace", "BadOrder") = some false := by decide +kernel
  have l2 : ktA.lookup ("BadPlace", "BadPlace") = some true := by decide +kernel
  have l3 : ktA.lookup ("BadPlace", "BadSieve") = some false := by decide +kernel
  have l4 : ktA.lookup ("BadPlace", "BadColumns") = some false := by decide +kernel
  have d1 : dCls (.glo "BadOrder") = some "BadOrder" := by decide +kernel
  have d2 : dCls (.glo "BadPlace") = some "BadPlace" := by decide +kernel
  have d3 : dCls (.glo "BadSieve") = some "BadSieve" := by decide +kernel
  have d4 : dCls (.glo "BadColumns") = some "BadColumns" := by decide +kernel
  unfold m__law_refused
  rw [seq_set (d := .lst []) (M' := M) (s' := [some cols, some o, some g, some w, some (.lst []), none]) (by simp) rfl]
  rw [v_seq (s' := [some cols, some o, some g, some w, some (.lst [.bl false, .bl true, .bl false, .bl false]), none]) (M' := M) (try_ex (c := "BadPlace") (s' := [some cols, some o, some g, some w, some (.lst []), none]) (M' := M) (by rcases hw with ⟨rfl, h⟩ | ⟨rfl, h⟩ <;> simp [h]) (by decide +kernel) fun a => by
    simp [v_sSeq, isED, d1, d2, d3, d4, l1, l2, l3, l4, unS])]
  rfl
/-! ### dict(columns), the gap drawn -/
def colK (p : Str × Str) : Key × D := (.inr p.1, .str p.2)
theorem dPairs_cols : ∀ cs : List (Str × Str), dPairsOf (cs.map colD) = some (cs.map colK)
  | [] => rfl
  | p :: cs => by
    rw [List.map_cons, dPairsOf, dPairs_cols cs]
    rfl
theorem merge_nodup : ∀ (kvs acc : List (Key × D)), (acc.map (·.1) ++ kvs.map (·.1)).Nodup → mergeD acc kvs = acc ++ kvs
  | [], acc, _ => by simp [mergeD]
  | kv :: kvs, acc, h => by
    have e : setAt.putKD acc kv.1 kv.2 = acc ++ [kv] := by
      unfold setAt.putKD
      rw [if_neg]
      intro z
      obtain ⟨q, hq, e⟩ := List.any_eq_true.mp z
      have e2 : q.1 = kv.1 := of_decide_eq_true e
      have d := (List.nodup_append.mp h).2.2 q.1 (List.mem_map.mpr ⟨q, hq, rfl⟩) kv.1 (by simp)
      exact d e2
    unfold mergeD
    rw [List.foldl_cons, e]
    have z := merge_nodup kvs (acc ++ [kv]) (by simpa using h)
    unfold mergeD at z
    rw [z]
    simp
theorem merge_cols {cs : List (Str × Str)} (hC : Cols cs) : mergeD [] (cs.map colK) = cs.map colK := by
  rw [merge_nodup _ _ ?_, List.nil_append]
  have e : (cs.map colK).map (·.1) = (cs.map (·.1)).map (Sum.inr : Str → Key) := by rw [List.map_map, List.map_map]; rfl
  rw [List.map_nil, List.nil_append, e, List.nodup_iff_pairwise_ne, List.pairwise_map]
  exact (List.nodup_iff_pairwise_ne.mp hC.nd).imp fun h z => h (Sum.inr.inj z)
theorem getK_cols {nm kd : Str} : ∀ {cs : List (Str × Str)}, (cs.map (·.1)).Nodup → (nm, kd) ∈ cs → getK (cs.map colK) (.inr nm) = some (.str kd)
  | [], _, h => by cases h
  | p :: cs, nd, h => by
    rw [List.map_cons, List.nodup_cons] at nd
    unfold getK
    rw [List.map_cons, List.find?_cons]
    rcases List.mem_cons.mp h with e | h
    · subst e
      simp [colK]
    · have ne : p.1 ≠ nm := fun e => nd.1 (by rw [e]; exact List.mem_map.mpr ⟨_, h, rfl⟩)
      have ne2 : ¬ ((colK p).1 = .inr nm) := fun e => ne (Sum.inr.inj e)
      rw [decide_eq_false ne2]
      exact getK_cols nd.2 h
theorem idx_dct {M : Mem} {i : Nat} {kvs : List (Key × D)} {x : Str} (h : M[i]? = some (.dct kvs)) : idxD M (.obj i) (.str x) = getK kvs (.inr x) := by
  unfold idxD
  simp only [h]
  rfl
theorem gap_ok (M : Mem) {cs : List (Str × Str)} (hC : Cols cs) {ps : List Part} (hO : OrdOk cs ps) (u : Bool) (c : Int) : ∃ vs k be M', f__law_gap [.tup (cs.map colD), orderD ps u, .int c] M = .ok (.tup [.tup [.tup vs, .str k], sideD be]) M' ∧ ValsOk ps vs ∧ kyB k = true ∧ k.length ≤ 12 ∧ (("ahead" : Str) == k) = false ∧ (("behind" : Str) == k) = false := by
  have h8 := hO.len
  obtain ⟨xs, hx, _, e1⟩ := draws_ok M c 10 (by decide)
  have e1' : p__law_draws [.int c, .int 10] M = .ok (.lst (xs.map .int)) M := e1
  let N : Mem := M ++ [.dct (cs.map colK)]
  have hN : N[M.length]? = some (.dct (cs.map colK)) := by simp [N]
  obtain ⟨x0, hx0⟩ : ∃ x, xs[0]? = some x := ⟨xs[0], List.getElem?_eq_getElem (by omega)⟩
  obtain ⟨x1, hx1⟩ : ∃ x, xs[1]? = some x := ⟨xs[1], List.getElem?_eq_getElem (by omega)⟩
  have i0 : atI (xs.map D.int) 0 = some (.int x0) := w_ix (k := 0) (by rw [List.getElem?_map, hx0]; rfl) rfl
  have i1 : atI (xs.map D.int) 1 = some (.int x1) := w_ix (k := 1) (by rw [List.getElem?_map, hx1]; rfl) rfl
  obtain ⟨k, ek, k1, k2, k3, k4⟩ := lkey_ok N x0
  obtain ⟨be, hbe⟩ : ∃ be : Bool, atI [D.str "ahead", .str "behind"] (x1 % 2) = some (sideD be) := by
    by_cases h : x1 % 2 = 0
    · exact ⟨false, by rw [h]; exact atI_0⟩
    · exact ⟨true, by rw [show x1 % 2 = 1 by omega]; exact atI_1⟩
  let S : Sl := [some (.tup (cs.map colD)), some (orderD ps u), some (.int c), some (.lst (xs.map .int)), some (.obj M.length), none, none]
  have hr : iRange1 (eB lenD (aCons (e2 idxD (eVar 1) (eC (.int 0))) aNil)) S N = .ok (rng 0 ps.length, none) N := rng1_ok (n := ps.length) (j := ((ps.map partD).length : Int)) (by simp [S, ord0]) (by simp) (by omega)
  obtain ⟨g, e, hg⟩ := comp_rel (it := iRange1 (eB lenD (aCons (e2 idxD (eVar 1) (eC (.int 0))) aNil))) (tg := gSet 6) (te := eCall 2 [] f__law_value (aCons (e2 idxD (eVar 4) (e2 idxD (e2 idxD (e2 idxD (eVar 1) (eC (.int 0))) (eVar 6)) (eC (.int 0)))) (aCons (e2 idxD (eVar 3) (e2 addD (eC (.int 2)) (eVar 6))) aNil))) (own := [6])
    (s := S) (M := N) (M0 := N) (l := List.range ps.length) (fun k => D.int ((0 : Int) + (k : Int))) (fun k d => ∀ p, ps[k]? = some p → Worth p.kd d) hr (fun k hk => by
      have hk' : k < ps.length := by simpa using hk
      obtain ⟨p, hp⟩ : ∃ p, ps[k]? = some p := ⟨ps[k], List.getElem?_eq_getElem hk'⟩
      obtain ⟨x, hx2⟩ : ∃ x, xs[2 + k]? = some x := ⟨xs[2 + k], List.getElem?_eq_getElem (by omega)⟩
      have hpc := List.mem_of_getElem? (hO.at_ p (List.mem_of_getElem? hp))
      obtain ⟨d, e1, e2⟩ := lv_ok N (hC.kd _ hpc) x
      have j1 : atI (ps.map partD) (k : Int) = some (partD p) := w_ix (k := k) (by rw [List.getElem?_map, hp]; rfl) rfl
      have j2 : atI (xs.map D.int) (2 + (k : Int)) = some (.int x) := w_ix (k := 2 + k) (by rw [List.getElem?_map, hx2]; rfl) (by omega)
      have j3 : idxD N (.obj M.length) (.str p.nm) = some (.str p.kd) := by rw [idx_dct hN, getK_cols hC.nd hpc]
      refine ⟨_, d, rfl, ?_, fun q hq => by rw [hp] at hq; cases hq; exact e2⟩
      simp [S, wipeD, ord0, j1, pt0, j3, j2, e1]) (le_size (by simp; omega))
  refine ⟨(List.range ps.length).map g, k, be, N, fn_rt rfl ?_, ⟨by simp, ?_⟩, k1, k2, k3, k4⟩
  · show m__law_gap [some (.tup (cs.map colD)), some (orderD ps u), some (.int c), none, none, none, none] M = _
    unfold m__law_gap
    rw [seq_set (d := .lst (xs.map .int)) (M' := M) (s' := [some (.tup (cs.map colD)), some (orderD ps u), some (.int c), some (.lst (xs.map .int)), none, none, none]) (by simp [e1']) rfl]
    rw [seq_set (d := .obj M.length) (M' := N) (s' := S) (by simp [eDictOf, dPairs_cols, merge_cols hC, N]) rfl]
    rw [v_seq (s' := [some (.tup (cs.map colD)), some (orderD ps u), some (.int c), some (.lst (xs.map .int)), some (.obj M.length), some (.lst ((List.range ps.length).map g)), none]) (M' := N) (by
      simp only [v_sSetC, v_sAsg, Bool.false_eq_true, if_false, v_Tree, e, v_bind, v_st]
      rfl)]
    simp [tupleD, seqD, listD, i0, ek, i1, w_mod, hbe]
  · intro q hq
    obtain ⟨i, hi⟩ := List.mem_iff_getElem?.mp hq
    obtain ⟨h1, h2⟩ := List.getElem?_zip_eq_some.mp hi
    rw [List.getElem?_map] at h2
    obtain ⟨k, hk, e2⟩ := Option.map_eq_some_iff.mp h2
    have ek : k = i := by
      obtain ⟨hh, e3⟩ := List.getElem?_eq_some_iff.mp hk
      simpa using e3.symm
    subst ek
    rw [← e2]
    exact hg k (List.mem_of_getElem? hk) q.1 h1
end LW
namespace LW
open PySem PySem.Spec PyProof.Rows L2 MM
/-! ### bad orders -/
section
variable (M : Mem) {cs : List (Str × Str)} (hC : Cols cs) {ps : List Part} (hO : OrdOk cs ps) (u : Bool)
def A1 (P : List D) (w : D) (N : Nat) : List D := [.lst [.tup P, w], .tup [.lst P, w], .tup [.tup P, w, w], .tup [.tup P], .tup [w, .tup P], .non, .int 7, .str "up", .tup [], .obj N]
def A2 (P : List D) (w : D) : List D := [.tup [.tup P, .str "Up"], .tup [.tup P, .non], .tup [.tup P, .str "first"], .tup [.tup P, .lst [.str "up"]], .tup [.non, w], .tup [.tup P, .bl true]]
def A3 (P : List D) (w : D) : List D := [.tup [.tup (P ++ [.tup [.str "nosuch", .str "up", .str "last"]]), w], .tup [.tup (P ++ [.non]), w], .tup [.tup P, w, .int 1]]
def OD (n t e : D) : List D := [.tup [n, e, t], .tup [n, t], .tup [n, t, e, e], .lst [n, t, e], .tup [n, .str "", e], n, .tup [n, t, .str "up"], .tup [.lst [n], t, e], .tup [.non, t, e], .tup [.int 7, t, e], .tup [n, t, .non], .tup [n, .lst [t], e], .tup [n, t, .lst [e]]]
theorem part_py (M : Mem) : ∀ l : List Part, ∃ p, toPys M (l.map partD) = some p
  | [] => ⟨[], rfl⟩
  | p :: l => by
    obtain ⟨q, h⟩ := part_py M l
    exact ⟨_, by rw [List.map_cons, toPys, h]; rfl⟩
theorem way_str (u : Bool) : ∃ x, wayD u = .str x := ⟨_, rfl⟩
theorem lits_in : ((("up" : Str) == "Up") || (("down" : Str) == "Up")) = false ∧ ((("up" : Str) == "first") || (("down" : Str) == "first")) = false ∧ ((("up" : Str) == "") || (("down" : Str) == "")) = false ∧ ((("first" : Str) == "up") || (("last" : Str) == "up")) = false := by decide +kernel
theorem isiNT' {M : Mem} {d : D} {t : String} (h : tyD M d = some t) (ht : subTy t "tuple" = false) : f_is_tuple [d, .int 2] M = .ok (.bl false) M := tup2_o M d _ (isiNT h ht)
include hC hO
theorem OD_bad {p : Part} (hp : p ∈ ps) : ∀ o ∈ OD (.str p.nm) (wayD p.up) (endD p.fi), f_is_part [.tup (cs.map colD), o] M = .ok (.bl false) M := by
  have kn := kn_at M hC (List.mem_of_getElem? (hO.at_ p hp))
  have kl : f_kind_named [.tup (cs.map colD), .lst [.str p.nm]] M = .ok .non M := kn_no M cs _ (p := .list [.str p.nm]) rfl (fun _ z => nomatch z)
  have k0 : f_kind_named [.tup (cs.map colD), .non] M = .ok .non M := kn_no M cs _ (p := .none) rfl (fun _ z => nomatch z)
  have k7 : f_kind_named [.tup (cs.map colD), .int 7] M = .ok .non M := kn_no M cs _ (p := .int 7) rfl (fun _ z => nomatch z)
  obtain ⟨z1, z2, z3, z4⟩ := lits_in
  have w0 : inB M (.str "") k_WAYS = some (.bl false) := by unfold k_WAYS; rw [in2, z3]
  have e0 : inB M (.str "up") k_ENDS = some (.bl false) := by unfold k_ENDS; rw [in2, z4]
  intro o ho
  simp only [OD, List.mem_cons, List.not_mem_nil, or_false] at ho
  rcases ho with rfl | rfl | rfl | rfl | rfl | rfl | rfl | rfl | rfl | rfl | rfl | rfl | rfl
  · exact part_w M _ _ _ _ _ kn isb_str (end_no p.fi)
  · exact part_n M _ _ (by simp)
  · exact part_n M _ _ (by simp)
  · exact part_o M _ _ (isiNT (t := "list") rfl (by decide))
  · exact part_w M _ _ _ _ _ kn isb_str w0
  · exact part_o M _ _ (isiNT (t := "str") rfl (by decide))
  · exact part_3 M _ _ _ _ _ kn isb_str (way_in p.up) e0
  · exact part_k M _ _ _ _ _ kl rfl
  · exact part_k M _ _ _ _ _ k0 rfl
  · exact part_k M _ _ _ _ _ k7 rfl
  · exact part_3 M _ _ _ _ _ kn isb_str (way_in p.up) (in_no (b := .non) rfl (fun _ z => nomatch z))
  · exact part_w M _ _ _ _ _ kn isb_str (in_no (b := .lst [wayD p.up]) rfl (fun _ z => nomatch z))
  · exact part_3 M _ _ _ _ _ kn isb_str (way_in p.up) (in_no (b := .lst [endD p.fi]) rfl (fun _ z => nomatch z))
theorem parts_good : ∀ d ∈ ps.map partD, f_is_part [.tup (cs.map colD), d] M = .ok (.bl true) M := by
  intro d hd
  obtain ⟨p, hp, rfl⟩ := List.mem_map.mp hd
  exact part_good M hC (hO.at_ p hp)
theorem SOME_bad (i : Nat) (hi : M[i]? = some (.dct [])) : ∀ d ∈ A1 (ps.map partD) (wayD u) i ++ A2 (ps.map partD) (wayD u) ++ A3 (ps.map partD) (wayD u), f_check_order [.tup (cs.map colD), d] M = .ex "BadOrder" M := by
  obtain ⟨pp, hpp⟩ := part_py M ps
  have tp : toPy M (.tup (ps.map partD)) = some (.tuple pp) := by rw [toPy, hpp]; rfl
  obtain ⟨z1, z2, z3, z4⟩ := lits_in
  have no2 : ∀ (xs : List D), xs.length ≠ 2 → f_is_tuple [.tup xs, .int 2] M = .ok (.bl false) M := fun xs h => tup_ne (n := 2) h
  have good := parts_good M hC hO
  intro d hd
  simp only [A1, A2, A3, List.cons_append, List.nil_append, List.mem_cons, List.not_mem_nil, or_false] at hd
  rcases hd with rfl | rfl | rfl | rfl | rfl | rfl | rfl | rfl | rfl | rfl | rfl | rfl | rfl | rfl | rfl | rfl | rfl | rfl | rfl
  · exact co_2 M _ _ (isiNT' (t := "list") rfl (by decide))
  · exact co_no M _ _ u (isiNT (t := "list") rfl (by decide))
  · exact co_2 M _ _ (no2 _ (by simp))
  · exact co_2 M _ _ (no2 _ (by simp))
  · exact co_way M _ _ _ (in_no tp (fun _ z => nomatch z))
  · exact co_2 M _ _ (isiNT' (t := "NoneType") rfl (by decide))
  · exact co_2 M _ _ (isiNT' (t := "int") rfl (by decide))
  · exact co_2 M _ _ (isiNT' (t := "str") rfl (by decide))
  · exact co_2 M _ _ (no2 _ (by simp))
  · exact co_2 M _ _ (tup2_o M _ _ (isi_ok (t := "dict") (by simp only [tyD, hi]) (by decide)))
  · exact co_way M _ _ _ (by unfold k_WAYS; rw [in2, z1])
  · exact co_way M _ _ _ (in_no (b := .non) rfl (fun _ z => nomatch z))
  · exact co_way M _ _ _ (by unfold k_WAYS; rw [in2, z2])
  · exact co_way M _ _ _ (in_no (b := .lst [.str "up"]) rfl (fun _ z => nomatch z))
  · exact co_no M _ _ u (isiNT (t := "NoneType") rfl (by decide))
  · exact co_way M _ _ _ (in_no (b := .bl true) rfl (fun _ z => nomatch z))
  · have := co_odd M hC (as := ps.map partD) (bs := []) (o := .tup [.str "nosuch", .str "up", .str "last"]) u (by simpa using good) (part_k M _ _ _ _ _ (kn_such M hC) rfl)
    rw [List.append_nil] at this
    exact this
  · have := co_odd M hC (as := ps.map partD) (bs := []) (o := .non) u (by simpa using good) (part_o M _ _ (isiNT (t := "NoneType") rfl (by decide)))
    rw [List.append_nil] at this
    exact this
  · exact co_2 M _ _ (no2 _ (by simp))
end
abbrev SB (cs : List (Str × Str)) (ps : List Part) (u : Bool) (x0 x1 x2 : Int) (o5 o6 o7 o8 o9 o10 : Option D) : Sl := [some (.tup (cs.map colD)), some (orderD ps u), some (.lst [.int x0, .int x1, .int x2]), some (.tup (ps.map partD)), some (wayD u), o5, o6, o7, o8, o9, o10, none]
theorem cutP_to {P : List D} {a : Nat} : cutL P none (some (a : Int)) = P.take a := cut_to
theorem cutP_from {P : List D} {a : Nat} : cutL P (some ((a : Int) + 1)) none = P.drop (a + 1) := by
  have e : ((a : Int) + 1) = ((a + 1 : Nat) : Int) := by omega
  rw [e, cut_from]
theorem isE_nil {M : Mem} (l : List Part) : neB M (.tup (l.map partD)) (.tup []) = some (.bl (!l.isEmpty)) := by
  obtain ⟨pp, hpp⟩ := part_py M l
  have tp : toPy M (.tup (l.map partD)) = some (.tuple pp) := by rw [toPy, hpp]; rfl
  have z := eq_any (M := M) (a := .tup (l.map partD)) (b := .tup []) tp (by rw [toPy, toPys]; rfl) (by simp [PyData.depth, PyData.depthAll])
  have e : PyData.eqv (.tuple pp) (.tuple []) = l.isEmpty := by
    cases l with
    | nil => rw [List.map_nil, toPys] at hpp; cases hpp; simp [PyData.eqv, PyData.eqvAll]
    | cons p l =>
      rw [List.map_cons, toPys] at hpp
      obtain ⟨a, _, h⟩ := Option.bind_eq_some_iff.mp hpp
      obtain ⟨b, _, h2⟩ := Option.map_eq_some_iff.mp h
      rw [← h2]
      simp [PyData.eqv, PyData.eqvAll]
  rw [e] at z
  unfold eqB at z
  unfold neB
  obtain ⟨b, hb, e1⟩ := Option.map_eq_some_iff.mp z
  rw [hb]
  injection e1 with e1
  rw [← e1]
  rfl
theorem bad_order_ok (M : Mem) {cs : List (Str × Str)} (hC : Cols cs) {ps : List Part} (hO : OrdOk cs ps) (u : Bool) (x0 x1 x2 : Int) : ∃ d M', f__law_bad_order [.tup (cs.map colD), orderD ps u, .lst [.int x0, .int x1, .int x2]] M = .ok d M' ∧ f_check_order [.tup (cs.map colD), d] M' = .ex "BadOrder" M' := by
  have h8 := hO.len
  let N : Mem := M ++ [.dct []]
  have hN : N[M.length]? = some (.dct []) := by simp [N]
  have pl : (ps.map partD).length = ps.length := List.length_map _
  have sb := SOME_bad N hC hO u M.length hN
  let B : List D := A1 (ps.map partD) (wayD u) M.length ++ A2 (ps.map partD) (wayD u) ++ A3 (ps.map partD) (wayD u)
  have t1 : addD N (.tup (ps.map partD)) (.tup [.tup [.str "nosuch", .str "up", .str "last"]]) = some (.tup (ps.map partD ++ [.tup [.str "nosuch", .str "up", .str "last"]])) := w_addT (by simp; omega)
  have t2 : addD N (.tup (ps.map partD)) (.tup [.non]) = some (.tup (ps.map partD ++ [.non])) := w_addT (by simp; omega)
  have t3 : addD N (.tup [.tup (ps.map partD)]) (.tup [wayD u]) = some (.tup [.tup (ps.map partD), wayD u]) := w_addT (by simp)
  have t4 : addD N (.tup [.tup (ps.map partD), wayD u]) (.tup [.int 1]) = some (.tup [.tup (ps.map partD), wayD u, .int 1]) := w_addT (by simp)
  have start : ∀ {R : RS} {b : MS}, b (SB cs ps u x0 x1 x2 (some (.lst B)) none none none none none) N = R →
      (sSeq (sAsg (eVar 1) (gTupM [(gSet 3), (gSet 4)]))
    (sSeq (sAsg (eTree (lLst (aCons (eTree (lListOf (aCons (eVar 1) aNil))) (aCons (eTup (aCons (eTree (lListOf (aCons (eVar 3) aNil))) (aCons (eVar 4) aNil))) (aCons (eTup (aCons (eVar 3) (aCons (eVar 4) (aCons (eVar 4) aNil)))) (aCons (eTup (aCons (eVar 3) aNil)) (aCons (eTup (aCons (eVar 4) (aCons (eVar 3) aNil))) (aCons (eC .non) (aCons (eC (.int 7)) (aCons (eC (.str "up")) (aCons (eTup aNil) (aCons eDict0 aNil)))))))))))) (gSet 5))
    (sSeq (sAsg (e2 addD (eVar 5) (eTree (lLst (aCons (eTup (aCons (eVar 3) (aCons (eC (.str "Up")) aNil))) (aCons (eTup (aCons (eVar 3) (aCons (eC .non) aNil))) (aCons (eTup (aCons (eVar 3) (aCons (eC (.str "first")) aNil))) (aCons (eTup (aCons (eVar 3) (aCons (eTree (lLst (aCons (eC (.str "up")) aNil))) aNil))) (aCons (eTup (aCons (eC .non) (aCons (eVar 4) aNil))) (aCons (eTup (aCons (eVar 3) (aCons (eC (.bl true)) aNil))) aNil))))))))) (gSet 5))
    (sSeq (sAsg (e2 addD (eVar 5) (eTree (lLst (aCons (eTup (aCons (e2 addD (eVar 3) (eTup (aCons (eTup (aCons (eC (.str "nosuch")) (aCons (eC (.str "up")) (aCons (eC (.str "last")) aNil)))) aNil))) (aCons (eVar 4) aNil))) (aCons (eTup (aCons (e2 addD (eVar 3) (eTup (aCons (eC .non) aNil))) (aCons (eVar 4) aNil))) (aCons (e2 addD (e2 addD (eTup (aCons (eVar 3) aNil)) (eTup (aCons (eVar 4) aNil))) (eTup (aCons (eC (.int 1)) aNil))) aNil)))))) (gSet 5)) b)))) [some (.tup (cs.map colD)), some (orderD ps u), some (.lst [.int x0, .int x1, .int x2]), none, none, none, none, none, none, none, none, none] M = R := by
    intro R b h
    rw [v_seq (s' := SB cs ps u x0 x1 x2 none none none none none none) (M' := M) (by simp [orderD])]
    rw [seq_set (d := .lst (A1 (ps.map partD) (wayD u) M.length)) (M' := N) (s' := SB cs ps u x0 x1 x2 (some (.lst (A1 (ps.map partD) (wayD u) M.length))) none none none none none) (by simp [lListOf, seqD, listD, A1, N, orderD]) rfl]
    rw [seq_set (d := .lst (A1 (ps.map partD) (wayD u) M.length ++ A2 (ps.map partD) (wayD u))) (M' := N) (s' := SB cs ps u x0 x1 x2 (some (.lst (A1 (ps.map partD) (wayD u) M.length ++ A2 (ps.map partD) (wayD u)))) none none none none none) (by simp [A1, A2, w_addL]) rfl]
    rw [seq_set (d := .lst B) (M' := N) (s' := SB cs ps u x0 x1 x2 (some (.lst B)) none none none none none) (by
      simp only [v_e2, v_Tree, v_Lst, v_Tup, v_cons, v_nil, v_C, v_var5, v_var4, v_var3, v_var2, v_var1, v_var0, v_bind, List.length_cons, List.length_nil, Nat.le_refl, t1, t2, t3, t4, v_oo, if_true, le_size (by decide : 0 + 1 ≤ 5000), le_size (by decide : 0 + 1 + 1 ≤ 5000), le_size (by decide : 0 + 1 + 1 + 1 ≤ 5000)]
      rw [w_addL (by simp [A1, A2])]
      rfl) rfl]
    exact h
  have ne := isE_nil (M := N) ps
  by_cases he : ps = []
  · have ie : ps.isEmpty = true := by rw [he]; rfl
    rw [ie] at ne
    obtain ⟨d, e, hd⟩ := atI_lt (ds := B) (i := x0 % 19) (by omega) (by show x0 % 19 < 19; omega)
    refine ⟨d, N, fn_rt rfl ?_, sb d hd⟩
    show m__law_bad_order [some (.tup (cs.map colD)), some (orderD ps u), some (.lst [.int x0, .int x1, .int x2]), none, none, none, none, none, none, none, none, none] M = _
    unfold m__law_bad_order
    refine start ?_
    rw [v_seq (s' := SB cs ps u x0 x1 x2 (some (.lst B)) none none none none none) (M' := N) (by simp [ne])]
    have bl : B.length = 19 := rfl
    simp [bl, w_mod, e]
  · have hlen : 0 < ps.length := List.length_pos_iff.mpr he
    have ie : ps.isEmpty = false := by cases ps; exact absurd rfl he; rfl
    rw [ie] at ne
    have lp : (0 : Int) < ps.length := by omega
    have a1 : x1 % (ps.length : Int) < ps.length := Int.emod_lt_of_pos _ lp
    have a0 : 0 ≤ x1 % (ps.length : Int) := Int.emod_nonneg _ (by omega)
    obtain ⟨a, ha⟩ : ∃ a : Nat, x1 % (ps.length : Int) = a := ⟨(x1 % (ps.length : Int)).toNat, by omega⟩
    have hal : a < ps.length := by omega
    obtain ⟨p, hp⟩ : ∃ p, ps[a]? = some p := ⟨ps[a], List.getElem?_eq_getElem hal⟩
    have hpm := List.mem_of_getElem? hp
    have i1 : atI (ps.map partD) (a : Int) = some (partD p) := w_ix (k := a) (by rw [List.getElem?_map, hp]; rfl) rfl
    have mm := w_mod (M := N) (i := x1) lp
    rw [ha] at mm
    let O : List D := OD (.str p.nm) (wayD p.up) (endD p.fi)
    let cut : D → D := fun o => .tup [.tup ((ps.map partD).take a ++ [o] ++ (ps.map partD).drop (a + 1)), wayD u]
    let F : List D := O.map cut ++ B ++ [.tup [.tup (ps.map partD ++ [partD p]), wayD u]]
    have fl : F.length = 33 := by simp [F, O, OD, B, A1, A2, A3]
    obtain ⟨d, e, hd⟩ := atI_lt (ds := F) (i := x0 % 33) (by omega) (by rw [fl]; omega)
    have ob := OD_bad N hC hO hpm
    have good := parts_good N hC hO
    refine ⟨d, N, fn_rt rfl ?_, ?_⟩
    · show m__law_bad_order [some (.tup (cs.map colD)), some (orderD ps u), some (.lst [.int x0, .int x1, .int x2]), none, none, none, none, none, none, none, none, none] M = _
      unfold m__law_bad_order
      refine start ?_
      have t5 : ∀ o, addD N (.tup ((ps.map partD).take a)) (.tup [o]) = some (.tup ((ps.map partD).take a ++ [o])) := fun o => w_addT (by simp; omega)
      have t6 : ∀ o, addD N (.tup ((ps.map partD).take a ++ [o])) (.tup ((ps.map partD).drop (a + 1))) = some (.tup ((ps.map partD).take a ++ [o] ++ (ps.map partD).drop (a + 1))) := fun o => w_addT (by simp; omega)
      have t7 : addD N (.tup (ps.map partD)) (.tup [partD p]) = some (.tup (ps.map partD ++ [partD p])) := w_addT (by simp; omega)
      have cc := comp_over (it := iSeq (eVar 10)) (tg := gSet 11) (te := eTup (aCons (e2 addD (e2 addD (eSl (eVar 3) oNo (oYes (eVar 6))) (eTup (aCons (eVar 11) aNil))) (eSl (eVar 3) (oYes (e2 addD (eVar 6) (eC (.int 1)))) oNo)) (aCons (eVar 4) aNil))) (own := [11])
        (s := SB cs ps u x0 x1 x2 (some (.lst B)) (some (.int a)) (some (.str p.nm)) (some (wayD p.up)) (some (endD p.fi)) (some (.lst O))) (M := N) (M0 := N) (l := O) id cut (by simp [SB]) (fun o _ => ⟨_, rfl, by
          simp only [SB, wipeD, List.set, id_eq, v_e2, v_Sl, v_oNo, v_oYes, v_Tup, v_cons, v_nil, v_C, v_var11, v_var10, v_var9, v_var8, v_var7, v_var6, v_var5, v_var4, v_var3, v_var2, v_var1, v_var0, v_bind, w_cutT, v_oo, cutP_to, cutP_from, w_add, t5, t6, List.length_cons, List.length_nil, if_true, le_size (by decide : 0 + 1 ≤ 5000), le_size (by decide : 0 + 1 + 1 ≤ 5000)]
          rfl⟩) (le_size (by simp [O, OD]))
      rw [v_seq (s' := SB cs ps u x0 x1 x2 (some (.lst F)) (some (.int a)) (some (.str p.nm)) (some (wayD p.up)) (some (endD p.fi)) (some (.lst O))) (M' := N) (by
        simp only [v_sIf, v_tOf, v_e2, v_Tup, v_nil, v_var3, v_var2, v_var1, v_var0, v_bind, List.length_nil, Nat.zero_le, if_true, ne, v_oo, Bool.not_false, v_st]
        rw [seq_set (d := .int a) (M' := N) (s' := SB cs ps u x0 x1 x2 (some (.lst B)) (some (.int a)) none none none none) (by simp [mm]) rfl]
        rw [v_seq (s' := SB cs ps u x0 x1 x2 (some (.lst B)) (some (.int a)) (some (.str p.nm)) (some (wayD p.up)) (some (endD p.fi)) none) (M' := N) (by
          simp only [v_sAsg, v_e2, v_var6, v_var5, v_var4, v_var3, v_var2, v_var1, v_var0, v_bind, w_ixT, i1, v_oo, v_st]
          rfl)]
        rw [seq_set (d := .lst (O.take 6)) (M' := N) (s' := SB cs ps u x0 x1 x2 (some (.lst B)) (some (.int a)) (some (.str p.nm)) (some (wayD p.up)) (some (endD p.fi)) (some (.lst (O.take 6)))) (by simp [O, OD]) rfl]
        rw [seq_set (d := .lst (O.take 11)) (M' := N) (s' := SB cs ps u x0 x1 x2 (some (.lst B)) (some (.int a)) (some (.str p.nm)) (some (wayD p.up)) (some (endD p.fi)) (some (.lst (O.take 11)))) (by simp [O, OD, w_addL]) rfl]
        rw [seq_set (d := .lst O) (M' := N) (s' := SB cs ps u x0 x1 x2 (some (.lst B)) (some (.int a)) (some (.str p.nm)) (some (wayD p.up)) (some (endD p.fi)) (some (.lst O))) (by simp [O, OD, w_addL]) rfl]
        refine asg_ok (d := .lst F) ?_
        simp only [v_e2, v_Tree, cc, v_Lst, v_Tup, v_cons, v_nil, v_var6, v_var5, v_var4, v_var3, v_var2, v_var1, v_var0, v_bind, w_ixT, i1, v_oo, t7, List.length_cons, List.length_nil, if_true, le_size (by decide : 0 + 1 ≤ 5000), le_size (by decide : 0 + 1 + 1 ≤ 5000)]
        rw [w_addL (by simp [O, OD, B, A1, A2, A3])]
        simp only [v_oo, v_bind, t7, List.length_cons, List.length_nil, if_true, le_size (by decide : 0 + 1 ≤ 5000), le_size (by decide : 0 + 1 + 1 ≤ 5000)]
        rw [w_addL (by simp [O, OD, B, A1, A2, A3])]
        rfl)]
      simp [fl, w_mod, e]
    · simp only [F, List.mem_append, List.mem_singleton] at hd
      rcases hd with (h | h) | h
      · obtain ⟨o, ho, rfl⟩ := List.mem_map.mp h
        refine co_odd N hC u (fun d hd => good d ?_) (ob o ho)
        rcases List.mem_append.mp hd with z | z
        · exact List.mem_of_mem_take z
        · exact List.mem_of_mem_drop z
      · exact sb d h
      · rw [h]
        exact co_twice N hC hO u hpm
end LW
namespace LW
open PySem PySem.Spec PyProof.Rows L2 MM
/-! ### bad places -/
theorem worth_py {k : Str} {d : D} (h : Worth k d) (M : Mem) : ∃ p, toPy M d = some p := by
  have z := h.2 M
  unfold neB eqD at z
  cases e : toPy M d with
  | none => rw [e] at z; cases z
  | some p => exact ⟨p, rfl⟩
theorem vals_py (M : Mem) : ∀ vs : List D, (∀ v ∈ vs, ∃ p, toPy M v = some p) → ∃ ps, toPys M vs = some ps ∧ ps.length = vs.length
  | [], _ => ⟨[], rfl, rfl⟩
  | v :: vs, h => by
    obtain ⟨p, hp⟩ := h v (by simp)
    obtain ⟨ps, h1, h2⟩ := vals_py M vs fun w hw => h w (by simp [hw])
    exact ⟨p :: ps, by rw [toPys, hp, h1]; rfl, by simp [h2]⟩
theorem ValsOk.worth {ps : List Part} {vs : List D} (h : ValsOk ps vs) : ∀ v ∈ vs, ∃ k, Worth k v := by
  intro v hv
  obtain ⟨i, hi⟩ := List.mem_iff_getElem?.mp hv
  have hl := h.1
  have h2 := (List.getElem?_eq_some_iff.mp hi).1
  obtain ⟨p, hp⟩ : ∃ p, ps[i]? = some p := ⟨ps[i], List.getElem?_eq_getElem (by omega)⟩
  exact ⟨_, h.2 (p, v) (List.mem_of_getElem? (i := i) (List.getElem?_zip_eq_some.mpr ⟨hp, hi⟩))⟩
theorem isV_nil {M : Mem} {ps : List Part} {vs : List D} (h : ValsOk ps vs) : neB M (.tup vs) (.tup []) = some (.bl (!vs.isEmpty)) := by
  obtain ⟨pp, hpp, hl⟩ := vals_py M vs fun v hv => let ⟨_, w⟩ := h.worth v hv; worth_py w M
  have tp : toPy M (.tup vs) = some (.tuple pp) := by rw [toPy, hpp]; rfl
  have z := eq_any (M := M) (a := .tup vs) (b := .tup []) tp (by rw [toPy, toPys]; rfl) (by simp [PyData.depth, PyData.depthAll])
  have e : PyData.eqv (.tuple pp) (.tuple []) = vs.isEmpty := by
    cases vs with
    | nil => cases pp; simp [PyData.eqv, PyData.eqvAll]; simp at hl
    | cons v vs =>
      cases pp with
      | nil => simp at hl
      | cons p pp => simp [PyData.eqv, PyData.eqvAll]
  rw [e] at z
  unfold eqB at z
  unfold neB
  obtain ⟨b, hb, e1⟩ := Option.map_eq_some_iff.mp z
  rw [hb]
  injection e1 with e1
  rw [← e1]
  rfl
def KZ : List D := [.str "", .str "A", .str "1", .non, .int 7, .lst [.str "a"], .str a13, .bl true, .str "a b"]
theorem badz : ∀ x ∈ (["", "A", "1", a13, "a b"] : List Str), kyB x = false ∧ x.length ≤ 5000 := by decide +kernel
theorem nokey (M : Mem) {x : Str} (h : x ∈ (["", "A", "1", a13, "a b"] : List Str)) : f_is_key [.str x] M = .ok (.bl false) M := by
  have z := key_ok M x (badz x h).2
  rw [(badz x h).1] at z
  exact z
theorem KZ_no (M : Mem) : ∀ d ∈ KZ, f_is_key [d] M = .ok (.bl false) M := by
  intro d hd
  simp only [KZ, List.mem_cons, List.not_mem_nil, or_false] at hd
  rcases hd with rfl | rfl | rfl | rfl | rfl | rfl | rfl | rfl | rfl
  · exact nokey M (by simp)
  · exact nokey M (by simp)
  · exact nokey M (by simp)
  · exact key_o M _ isiNS
  · exact key_o M _ isiIS
  · exact key_o M _ isiLS
  · exact nokey M (by simp)
  · exact key_o M _ isiBS
  · exact nokey M (by simp)
def B1 (vs : List D) (k : D) : List D := [.lst [.tup vs, k], .tup [.lst vs, k], .tup [.tup vs, k, k], .tup [.tup vs], .non]
def B2 (vs : List D) (k : D) : List D := [.tup [.tup (vs ++ [.non]), k], .tup [.tup (vs ++ [.int 0]), k], .tup [k, .tup vs], .tup [], .str "a", .int 5]
def BB (vs : List D) (k : D) : List D := KZ.map (fun o => .tup [.tup vs, o]) ++ B1 vs k ++ B2 vs k
section
variable (M : Mem) {cs : List (Str × Str)} (hC : Cols cs) {ps : List Part} (hO : OrdOk cs ps) (u : Bool) {vs : List D} (hv : ValsOk ps vs) {k : Str} (hk : kyB k = true) (hk2 : k.length ≤ 12)
include hC hO hv hk hk2
theorem key_good : f_is_key [.str k] M = .ok (.bl true) M := by
  have z := key_ok M k (by omega)
  rw [hk] at z
  exact z
theorem BB_bad : ∀ d ∈ BB vs (.str k), f_check_place [.tup (cs.map colD), orderD ps u, d] M = .ex "BadPlace" M := by
  have no2 : ∀ (xs : List D), xs.length ≠ 2 → f_is_tuple [.tup xs, .int 2] M = .ok (.bl false) M := fun xs h => tup_ne (n := 2) h
  have hl := hv.1
  intro d hd
  simp only [BB, List.mem_append] at hd
  rcases hd with (hd | hd) | hd
  · obtain ⟨o, ho, rfl⟩ := List.mem_map.mp hd
    exact cp_k M _ _ _ _ u hl (KZ_no M o ho)
  · simp only [B1, List.mem_cons, List.not_mem_nil, or_false] at hd
    rcases hd with rfl | rfl | rfl | rfl | rfl
    · exact cp_2 M _ _ _ u (isiNT' (t := "list") rfl (by decide))
    · exact cp_v M _ _ _ _ u (tup2_o M _ _ (isiNT (t := "list") rfl (by decide)))
    · exact cp_2 M _ _ _ u (no2 _ (by simp))
    · exact cp_2 M _ _ _ u (no2 _ (by simp))
    · exact cp_2 M _ _ _ u (isiNT' (t := "NoneType") rfl (by decide))
  · simp only [B2, List.mem_cons, List.not_mem_nil, or_false] at hd
    rcases hd with rfl | rfl | rfl | rfl | rfl | rfl
    · exact cp_v M _ _ _ _ u (tup_ne (by simp; omega))
    · exact cp_v M _ _ _ _ u (tup_ne (by simp; omega))
    · exact cp_v M _ _ _ _ u (tup2_o M _ _ (isiNT (t := "str") rfl (by decide)))
    · exact cp_2 M _ _ _ u (no2 _ (by simp))
    · exact cp_2 M _ _ _ u (isiNT' (t := "str") rfl (by decide))
    · exact cp_2 M _ _ _ u (isiNT' (t := "int") rfl (by decide))
end
def D1 (v : D) (i : Nat) : List D := [.bl true, .lst [v], .tup [.str "a"], .obj i, .str a41, .str "a\n"]
def D2 (w : Bool) : List D := if w then [.int 0, .int 5] else [.str "", .str "5"]
theorem D12_bad (M : Mem) {kd : Str} (hk : kd = "number" ∨ kd = "word") (v : D) (i : Nat) (hi : M[i]? = some (.dct [])) : ∀ o ∈ D1 v i ++ D2 (kd == "word"), f_is_value [.str kd, o] M = .ok (.bl false) M := by
  intro o ho
  rcases hk with rfl | rfl
  · have e : (("number" : Str) == "word") = false := by decide +kernel
    rw [e] at ho
    simp only [D1, D2, List.cons_append, List.nil_append, Bool.false_eq_true, if_false, List.mem_cons, List.not_mem_nil, or_false] at ho
    rcases ho with rfl | rfl | rfl | rfl | rfl | rfl | rfl | rfl
    · exact value_n M _ rfl (whole_b M _)
    · exact value_n M _ rfl (whole_o M _ ⟨isiLI, isiLS⟩)
    · exact value_n M _ rfl (whole_o M _ ⟨isiTI, isiTS⟩)
    · exact value_n M _ rfl (whole_o M _ ⟨isiDI hi, isiDS hi⟩)
    · exact value_n M _ rfl (whole_s M _)
    · exact value_n M _ rfl (whole_s M _)
    · exact value_n M _ rfl (whole_s M _)
    · exact value_n M _ rfl (whole_s M _)
  · have e : (("word" : Str) == "word") = true := by decide +kernel
    rw [e] at ho
    simp only [D1, D2, List.cons_append, List.nil_append, if_true, List.mem_cons, List.not_mem_nil, or_false] at ho
    rcases ho with rfl | rfl | rfl | rfl | rfl | rfl | rfl | rfl
    · exact value_w M _ rfl (word_o M _ isiBS)
    · exact value_w M _ rfl (word_o M _ isiLS)
    · exact value_w M _ rfl (word_o M _ isiTS)
    · exact value_w M _ rfl (word_o M _ (isiDS hi))
    · exact word_bad M (by simp)
    · exact word_bad M (by simp)
    · exact value_w M _ rfl (word_o M _ isiIS)
    · exact value_w M _ rfl (word_o M _ isiIS)
abbrev SP (cs : List (Str × Str)) (ps : List Part) (u : Bool) (vs : List D) (k : Str) (x0 x1 x2 : Int) (o6 o7 o8 o9 : Option D) : Sl := [some (.tup (cs.map colD)), some (orderD ps u), some (.tup [.tup vs, .str k]), some (.lst [.int x0, .int x1, .int x2]), some (.tup vs), some (.str k), o6, o7, o8, o9, none]
theorem bad_place_ok (M : Mem) {cs : List (Str × Str)} (hC : Cols cs) {ps : List Part} (hO : OrdOk cs ps) (u : Bool) {vs : List D} (hv : ValsOk ps vs) {k : Str} (hk : kyB k = true) (hk2 : k.length ≤ 12) (x0 x1 x2 : Int) :
    ∃ d M', f__law_bad_place [.tup (cs.map colD), orderD ps u, .tup [.tup vs, .str k], .lst [.int x0, .int x1, .int x2]] M = .ok d M' ∧ f_check_place [.tup (cs.map colD), orderD ps u, d] M' = .ex "BadPlace" M' := by
  have h8 := hO.len
  have hl := hv.1
  have t1 : addD M (.tup vs) (.tup [.non]) = some (.tup (vs ++ [.non])) := w_addT (by simp; omega)
  have t2 : addD M (.tup vs) (.tup [.int 0]) = some (.tup (vs ++ [.int 0])) := w_addT (by simp; omega)
  have kc := comp_over (it := iSeq (eVar 6)) (tg := gSet 10) (te := eTup (aCons (eVar 4) (aCons (eVar 10) aNil))) (own := [10]) (s := SP cs ps u vs k x0 x1 x2 (some (.lst KZ)) none none none) (M := M) (M0 := M) (l := KZ) id (fun o => D.tup [.tup vs, o]) (by simp [SP]) (fun o _ => ⟨_, rfl, by simp [SP, wipeD]⟩) (le_size (by simp [KZ]))
  have start : ∀ {R : RS} {b : MS}, b (SP cs ps u vs k x0 x1 x2 (some (.lst KZ)) (some (.lst (BB vs (.str k)))) none none) M = R → (sSeq (sAsg (eVar 2) (gTupM [(gSet 4), (gSet 5)]))
    (sSeq (sAsg (eTree (lLst (aCons (eC (.str "")) (aCons (eC (.str "A")) (aCons (eC (.str "1")) (aCons (eC .non) (aCons (eC (.int 7)) (aCons (eTree (lLst (aCons (eC (.str "a")) aNil))) (aCons (e2 mulD (eC (.str "a")) (eC (.int 13))) (aCons (eC (.bl true)) (aCons (eC (.str "a b")) aNil))))))))))) (gSet 6))
    (sSeq (sAsg (e2 addD (eTree (lComp (iSeq (eVar 6)) (gSet 10) tYesM (eTup (aCons (eVar 4) (aCons (eVar 10) aNil))) [10])) (eTree (lLst (aCons (eTree (lListOf (aCons (eVar 2) aNil))) (aCons (eTup (aCons (eTree (lListOf (aCons (eVar 4) aNil))) (aCons (eVar 5) aNil))) (aCons (eTup (aCons (eVar 4) (aCons (eVar 5) (aCons (eVar 5) aNil)))) (aCons (eTup (aCons (eVar 4) aNil)) (aCons (eC .non) aNil)))))))) (gSet 7))
    (sSeq (sAsg (e2 addD (eVar 7) (eTree (lLst (aCons (eTup (aCons (e2 addD (eVar 4) (eTup (aCons (eC .non) aNil))) (aCons (eVar 5) aNil))) (aCons (eTup (aCons (e2 addD (eVar 4) (eTup (aCons (eC (.int 0)) aNil))) (aCons (eVar 5) aNil))) (aCons (eTup (aCons (eVar 5) (aCons (eVar 4) aNil))) (aCons (eTup aNil) (aCons (eC (.str "a")) (aCons (eC (.int 5)) aNil))))))))) (gSet 7)) b))))
     [some (.tup (cs.map colD)), some (orderD ps u), some (.tup [.tup vs, .str k]), some (.lst [.int x0, .int x1, .int x2]), none, none, none, none, none, none, none] M = R := by
    intro R b h
    rw [v_seq (s' := SP cs ps u vs k x0 x1 x2 none none none none) (M' := M) (by simp)]
    rw [seq_set (d := .lst KZ) (M' := M) (s' := SP cs ps u vs k x0 x1 x2 (some (.lst KZ)) none none none) (by simp [KZ, mul13]) rfl]
    rw [seq_set (d := .lst (KZ.map (fun o => .tup [.tup vs, o]) ++ B1 vs (.str k))) (M' := M) (s' := SP cs ps u vs k x0 x1 x2 (some (.lst KZ)) (some (.lst (KZ.map (fun o => .tup [.tup vs, o]) ++ B1 vs (.str k)))) none none) (by
      simp only [v_e2, v_Tree, kc, v_bind]
      simp [lListOf, seqD, listD, B1]
      rw [w_addL (by simp [KZ])]
      rfl) rfl]
    rw [seq_set (d := .lst (BB vs (.str k))) (M' := M) (s' := SP cs ps u vs k x0 x1 x2 (some (.lst KZ)) (some (.lst (BB vs (.str k)))) none none) (by
      simp only [v_e2, v_Tree, v_Lst, v_Tup, v_cons, v_nil, v_C, v_var7, v_var6, v_var5, v_var4, v_var3, v_var2, v_var1, v_var0, v_bind, List.length_cons, List.length_nil, Nat.zero_le, t1, t2, v_oo, if_true, le_size (by decide : 0 + 1 ≤ 5000), le_size (by decide : 0 + 1 + 1 ≤ 5000), le_size (by decide : 0 + 1 + 1 + 1 + 1 + 1 + 1 ≤ 5000)]
      rw [w_addL (by simp [KZ, B1])]
      rfl) rfl]
    exact h
  have ne := isV_nil (M := M) hv
  have bl : (BB vs (.str k)).length = 20 := by simp [BB, KZ, B1, B2]
  by_cases he : vs = []
  · have ie : vs.isEmpty = true := by rw [he]; rfl
    rw [ie] at ne
    obtain ⟨d, e, hd⟩ := atI_lt (ds := BB vs (.str k)) (i := x0 % 20) (by omega) (by rw [bl]; omega)
    refine ⟨d, M, fn_rt rfl ?_, BB_bad M hC hO u hv hk hk2 d hd⟩
    show m__law_bad_place [some (.tup (cs.map colD)), some (orderD ps u), some (.tup [.tup vs, .str k]), some (.lst [.int x0, .int x1, .int x2]), none, none, none, none, none, none, none] M = _
    unfold m__law_bad_place
    refine start ?_
    rw [v_seq (s' := SP cs ps u vs k x0 x1 x2 (some (.lst KZ)) (some (.lst (BB vs (.str k)))) none none) (M' := M) (by simp [ne])]
    simp [bl, w_mod, e]
  · have hlen : 0 < vs.length := List.length_pos_iff.mpr he
    have ie : vs.isEmpty = false := by cases vs; exact absurd rfl he; rfl
    rw [ie] at ne
    have lp : (0 : Int) < vs.length := by omega
    have a1 : x1 % (vs.length : Int) < vs.length := Int.emod_lt_of_pos _ lp
    have a0 : 0 ≤ x1 % (vs.length : Int) := Int.emod_nonneg _ (by omega)
    obtain ⟨a, ha⟩ : ∃ a : Nat, x1 % (vs.length : Int) = a := ⟨(x1 % (vs.length : Int)).toNat, by omega⟩
    have hal : a < vs.length := by omega
    obtain ⟨p, hp⟩ : ∃ p, ps[a]? = some p := ⟨ps[a], List.getElem?_eq_getElem (by omega)⟩
    obtain ⟨v, hv2⟩ : ∃ v, vs[a]? = some v := ⟨vs[a], List.getElem?_eq_getElem hal⟩
    have hpm := List.mem_of_getElem? hp
    have hpc := List.mem_of_getElem? (hO.at_ p hpm)
    have hkd := hC.kd _ hpc
    have i1 : atI (ps.map partD) (a : Int) = some (partD p) := w_ix (k := a) (by rw [List.getElem?_map, hp]; rfl) rfl
    have i2 : atI vs (a : Int) = some v := w_ix (k := a) hv2 rfl
    have mm := w_mod (M := M) (i := x1) lp
    rw [ha] at mm
    let N1 : Mem := M ++ [.dct []]
    let N2 : Mem := N1 ++ [.dct (cs.map colK)]
    have hN1 : N2[M.length]? = some (.dct []) := by simp [N2, N1]
    have hN2 : N2[N1.length]? = some (.dct (cs.map colK)) := by simp [N2]
    let O : List D := D1 v M.length ++ D2 (p.kd == "word")
    have ol : O.length = 8 := by simp only [O, D1, D2]; split <;> rfl
    let cut : D → D := fun o => .tup [.tup (vs.take a ++ [o] ++ vs.drop (a + 1)), .str k]
    let F : List D := O.map cut ++ BB vs (.str k) ++ [.tup [.tup (vs.drop 1), .str k]]
    have fl : F.length = 29 := by simp [F, ol, bl]
    obtain ⟨d, e, hd⟩ := atI_lt (ds := F) (i := x0 % 29) (by omega) (by rw [fl]; omega)
    have ob := D12_bad N2 hkd v M.length hN1
    refine ⟨d, N2, fn_rt rfl ?_, ?_⟩
    · show m__law_bad_place [some (.tup (cs.map colD)), some (orderD ps u), some (.tup [.tup vs, .str k]), some (.lst [.int x0, .int x1, .int x2]), none, none, none, none, none, none, none] M = _
      unfold m__law_bad_place
      refine start ?_
      have t5 : ∀ o, addD N2 (.tup (vs.take a)) (.tup [o]) = some (.tup (vs.take a ++ [o])) := fun o => w_addT (by simp; omega)
      have t6 : ∀ o, addD N2 (.tup (vs.take a ++ [o])) (.tup (vs.drop (a + 1))) = some (.tup (vs.take a ++ [o] ++ vs.drop (a + 1))) := fun o => w_addT (by simp; omega)
      have j3 : idxD N2 (.obj N1.length) (.str p.nm) = some (.str p.kd) := by rw [idx_dct hN2, getK_cols hC.nd hpc]
      have dk : eDictOf (aCons (eVar 0) aNil) (SP cs ps u vs k x0 x1 x2 (some (.lst KZ)) (some (.lst (BB vs (.str k)))) (some (.int a)) (some (.lst (D1 v M.length)))) N1 = .ok (.obj N1.length) N2 := by simp [eDictOf, dPairs_cols, merge_cols hC, N2, SP]
      have cc := comp_over (it := iSeq (eVar 9)) (tg := gSet 10) (te := eTup (aCons (e2 addD (e2 addD (eSl (eVar 4) oNo (oYes (eVar 8))) (eTup (aCons (eVar 10) aNil))) (eSl (eVar 4) (oYes (e2 addD (eVar 8) (eC (.int 1)))) oNo)) (aCons (eVar 5) aNil))) (own := [10])
        (s := SP cs ps u vs k x0 x1 x2 (some (.lst KZ)) (some (.lst (BB vs (.str k)))) (some (.int a)) (some (.lst O))) (M := N2) (M0 := N2) (l := O) id cut (by simp [SP]) (fun o _ => ⟨_, rfl, by
          simp only [SP, wipeD, List.set, id_eq, v_e2, v_Sl, v_oNo, v_oYes, v_Tup, v_cons, v_nil, v_C, v_var10, v_var9, v_var8, v_var7, v_var6, v_var5, v_var4, v_var3, v_var2, v_var1, v_var0, v_bind, w_cutT, v_oo, cutP_to, cutP_from, w_add, t5, t6, List.length_cons, List.length_nil, if_true, le_size (by decide : 0 + 1 ≤ 5000), le_size (by decide : 0 + 1 + 1 ≤ 5000)]
          rfl⟩) (le_size (by rw [ol]; decide))
      have c1 : cutL vs (some 1) none = vs.drop 1 := cut_from (n := 1)
      rw [v_seq (s' := SP cs ps u vs k x0 x1 x2 (some (.lst KZ)) (some (.lst F)) (some (.int a)) (some (.lst O))) (M' := N2) (by
        simp only [v_sIf, v_tOf, v_e2, v_Tup, v_nil, v_var4, v_var3, v_var2, v_var1, v_var0, v_bind, List.length_nil, Nat.zero_le, if_true, ne, v_oo, Bool.not_false, v_st]
        rw [seq_set (d := .int a) (M' := M) (s' := SP cs ps u vs k x0 x1 x2 (some (.lst KZ)) (some (.lst (BB vs (.str k)))) (some (.int a)) none) (by simp [mm]) rfl]
        rw [seq_set (d := .lst (D1 v M.length)) (M' := N1) (s' := SP cs ps u vs k x0 x1 x2 (some (.lst KZ)) (some (.lst (BB vs (.str k)))) (some (.int a)) (some (.lst (D1 v M.length)))) (by simp [i2, D1, N1, mul41]) rfl]
        rw [v_seq (s' := SP cs ps u vs k x0 x1 x2 (some (.lst KZ)) (some (.lst (BB vs (.str k)))) (some (.int a)) (some (.lst O))) (M' := N2) (by
          simp only [v_sIf, v_tOf, v_e2, dk, v_bind, v_C, v_var8, v_var7, v_var6, v_var5, v_var4, v_var3, v_var2, v_var1, v_var0, ord0, v_oo, w_ixT, i1, pt0, j3, w_eqS, v_st]
          cases q : (p.kd == "word")
          · simp [O, q, D1, D2, w_addL]
          · simp [O, q, D1, D2, w_addL])]
        refine asg_ok (d := .lst F) ?_
        simp only [v_e2, v_Tree, cc, v_bind, v_var7, v_var6, v_var5, v_var4, v_var3, v_var2, v_var1, v_var0]
        rw [w_addL (by simp [ol, bl])]
        simp only [v_oo, v_bind, v_Lst, v_Tup, v_Sl, v_oNo, v_oYes, v_C, w_cutT, c1, v_cons, v_nil, v_var7, v_var6, v_var5, v_var4, v_var3, v_var2, v_var1, v_var0, List.length_cons, List.length_nil, if_true, le_size (by decide : 0 + 1 ≤ 5000), le_size (by decide : 0 + 1 + 1 ≤ 5000)]
        rw [w_addL (by simp [ol, bl])]
        rfl)]
      simp [fl, w_mod, e]
    · have kg := key_good N2 hC hO hv hk hk2
      simp only [F, List.mem_append, List.mem_singleton] at hd
      rcases hd with (h | h) | h
      · obtain ⟨o, ho, rfl⟩ := List.mem_map.mp h
        exact cp_odd N2 hC hO u (.str k) vs a o kg hv hp (ob o ho)
      · exact BB_bad N2 hC hO u hv hk hk2 d h
      · rw [h]
        exact cp_v N2 _ _ _ _ u (tup_ne (by simp; omega))
end LW
namespace LW
open PySem PySem.Spec PyProof.Rows L2 MM
namespace PL
abbrev LS (scr : D) (cs : List (Str × Str)) (ps : List Part) (u : Bool) (P : D) (be : Bool) (o4 o5 o6 o7 o8 o9 : Option D) : Sl := [some scr, some (.tup (cs.map colD)), some (orderD ps u), some (.tup [P, sideD be]), o4, o5, o6, o7, o8, o9]
def NI (P : D) (be : Bool) : List D := [.tup [P, .lst [.str "ahead"]], .tup [P, .str "up"], .tup [P, .non], .tup [P], .tup [P, .str "ahead", .str "ahead"], .lst [P, sideD be], .non, P, .tup [], .str "ahead"]
theorem lits_up : ((("ahead" : Str) == "up") || (("behind" : Str) == "up")) = false := by decide +kernel
theorem NI_bad (M : Mem) (cols o : D) {vs : List D} {k : Str} (hk3 : (("ahead" : Str) == k) = false) (hk4 : (("behind" : Str) == k) = false) (be : Bool) : ∀ d ∈ NI (.tup [.tup vs, .str k]) be, f_check_gap [cols, o, d] M = .ex "BadPlace" M := by
  have no2 : ∀ (xs : List D), xs.length ≠ 2 → f_is_tuple [.tup xs, .int 2] M = .ok (.bl false) M := fun xs h => tup_ne (n := 2) h
  intro d hd
  simp only [NI, List.mem_cons, List.not_mem_nil, or_false] at hd
  rcases hd with rfl | rfl | rfl | rfl | rfl | rfl | rfl | rfl | rfl | rfl
  · exact cg_side M _ _ _ _ (in_no (b := .lst [.str "ahead"]) rfl (fun _ z => nomatch z))
  · exact cg_side M _ _ _ _ (by unfold k_SIDES; rw [in2, lits_up])
  · exact cg_side M _ _ _ _ (in_no (b := .non) rfl (fun _ z => nomatch z))
  · exact cg_2 M _ _ _ (no2 _ (by simp))
  · exact cg_2 M _ _ _ (no2 _ (by simp))
  · exact cg_2 M _ _ _ (isiNT' (t := "list") rfl (by decide))
  · exact cg_2 M _ _ _ (isiNT' (t := "NoneType") rfl (by decide))
  · exact cg_side M _ _ _ _ (by unfold k_SIDES; rw [in2, hk3, hk4]; rfl)
  · exact cg_2 M _ _ _ (no2 _ (by simp))
  · exact cg_2 M _ _ _ (isiNT' (t := "str") rfl (by decide))
noncomputable def b1 : MS := sIf (tOf (e2 neB (eCall 4 [] f__law_refused (aCons (eVar 1) (aCons (eVar 2) (aCons (eVar 9) (aCons (eVar 8) aNil))))) (eTree (lLst (aCons (eC (.bl false)) (aCons (eC (.bl true)) (aCons (eC (.bl false)) (aCons (eC (.bl false)) aNil)))))))) (sRet (eC (.bl false))) sNil
noncomputable def b2 : MS := (sSeq (sAsg (eCall 2 [] p__law_draws (aCons (eVar 5) (aCons (eC (.int 3)) aNil))) (gSet 6))
    (sSeq (sIf (tOf (e2 neB (eCall 4 [] f__law_refused (aCons (eVar 1) (aCons (eCall 3 [] f__law_bad_order (aCons (eVar 1) (aCons (eVar 2) (aCons (eVar 6) aNil)))) (aCons (eVar 3) (aCons (eC (.int 0)) aNil))))) (eTree (lLst (aCons (eC (.bl true)) (aCons (eC (.bl false)) (aCons (eC (.bl false)) (aCons (eC (.bl false)) aNil)))))))) (sRet (eC (.bl false))) sNil)
    (sSeq (sAsg (eCall 4 [] f__law_bad_place (aCons (eVar 1) (aCons (eVar 2) (aCons (e2 idxD (eVar 3) (eC (.int 0))) (aCons (eVar 6) aNil))))) (gSet 7))
    (sFor (iSeq (eTree (lLst (aCons (eTup (aCons (eC (.int 1)) (aCons (eVar 7) aNil))) (aCons (eTup (aCons (eC (.int 2)) (aCons (eTup (aCons (eVar 7) (aCons (e2 idxD (eVar 3) (eC (.int 1))) aNil))) aNil))) (aCons (eTup (aCons (eC (.int 2)) (aCons (e2 idxD (eVar 4) (e2 modD (e2 idxD (eVar 6) (eC (.int 2))) (eB lenD (aCons (eVar 4) aNil)))) aNil))) aNil)))))) (gTupM [(gSet 8), (gSet 9)]) b1))))
theorem ne_yes {M : Mem} (a b c d : Bool) : neB M (.lst [.bl a, .bl b, .bl c, .bl d]) (.lst [.bl a, .bl b, .bl c, .bl d]) = some (.bl false) := w_ne_bls [a, b, c, d]
theorem b2_ok (scr : D) {cs : List (Str × Str)} (hC : Cols cs) {ps : List Part} (hO : OrdOk cs ps) (u : Bool) {vs : List D} (hv : ValsOk ps vs) {k : Str} (hk : kyB k = true) (hk2 : k.length ≤ 12) (hk3 : (("ahead" : Str) == k) = false) (hk4 : (("behind" : Str) == k) = false) (be : Bool) (c : Int) (o6 o7 o8 o9 : Option D) (M : Mem) :
    ∃ M' p6 p7 p8 p9, b2 (LS scr cs ps u (.tup [.tup vs, .str k]) be (some (.lst (NI (.tup [.tup vs, .str k]) be))) (some (.int c)) o6 o7 o8 o9) M = .nx (LS scr cs ps u (.tup [.tup vs, .str k]) be (some (.lst (NI (.tup [.tup vs, .str k]) be))) (some (.int c)) p6 p7 p8 p9) M' := by
  obtain ⟨ys, hy, _, e1⟩ := draws_ok M c 3 (by decide)
  obtain ⟨x0, x1, x2, rfl⟩ := three hy
  have e1' : p__law_draws [.int c, .int 3] M = .ok (.lst [.int x0, .int x1, .int x2]) M := e1
  obtain ⟨d, M1, eb, e3⟩ := bad_order_ok M hC hO u x0 x1 x2
  have r0 := refused_0 M1 _ _ (.tup [.tup [.tup vs, .str k], sideD be]) e3
  obtain ⟨d2, M2, e4, e5⟩ := bad_place_ok M1 hC hO u hv hk hk2 x0 x1 x2
  obtain ⟨d3, i3, hd3⟩ := atI_lt (ds := NI (.tup [.tup vs, .str k]) be) (i := x2 % 10) (by omega) (by show x2 % 10 < 10; omega)
  have g3 := NI_bad M2 (.tup (cs.map colD)) (orderD ps u) (vs := vs) hk3 hk4 be d3 hd3
  have g2 := cg_place M2 _ _ _ be e5
  let L : List D := [.tup [.int 1, d2], .tup [.int 2, .tup [d2, sideD be]], .tup [.int 2, d3]]
  let T := LS scr cs ps u (.tup [.tup vs, .str k]) be (some (.lst (NI (.tup [.tup vs, .str k]) be))) (some (.int c)) (some (.lst [.int x0, .int x1, .int x2])) (some d2)
  have nl : (NI (.tup [.tup vs, .str k]) be).length = 10 := rfl
  have hi : iSeq (eTree (lLst (aCons (eTup (aCons (eC (.int 1)) (aCons (eVar 7) aNil))) (aCons (eTup (aCons (eC (.int 2)) (aCons (eTup (aCons (eVar 7) (aCons (e2 idxD (eVar 3) (eC (.int 1))) aNil))) aNil))) (aCons (eTup (aCons (eC (.int 2)) (aCons (e2 idxD (eVar 4) (e2 modD (e2 idxD (eVar 6) (eC (.int 2))) (eB lenD (aCons (eVar 4) aNil)))) aNil))) aNil))))) (T o8 o9) M2 = .ok (L, none) M2 := by
    simp [T, LS, nl, w_mod, i3, L]
  obtain ⟨s', M', ef, p8, p9, rfl, rfl⟩ := for_inv (tg := gTupM [gSet 8, gSet 9]) (b := b1) (fun _ s N => ∃ p8 p9, s = T p8 p9 ∧ M2 = N) hi ⟨o8, o9, rfl, rfl⟩ (by
    rintro i d s N hd ⟨p8, p9, rfl, rfl⟩
    have hd2 := List.mem_of_getElem? hd
    have go : ∀ (w g : D), f__law_refused [.tup (cs.map colD), orderD ps u, g, w] M2 = .ok (.lst [.bl false, .bl true, .bl false, .bl false]) M2 → b1 (T (some w) (some g)) M2 = .nx (T (some w) (some g)) M2 := by
      intro w g h
      unfold b1
      simp [T, LS, h, ne_yes]
    simp only [L, List.mem_cons, List.not_mem_nil, or_false] at hd2
    rcases hd2 with rfl | rfl | rfl
    · exact ⟨_, _, M2, rfl, .inl (go _ _ (refused_1 M2 _ _ _ _ (.inl ⟨rfl, e5⟩))), _, _, rfl, rfl⟩
    · exact ⟨_, _, M2, rfl, .inl (go _ _ (refused_1 M2 _ _ _ _ (.inr ⟨rfl, g2⟩))), _, _, rfl, rfl⟩
    · exact ⟨_, _, M2, rfl, .inl (go _ _ (refused_1 M2 _ _ _ _ (.inr ⟨rfl, g3⟩))), _, _, rfl, rfl⟩)
  refine ⟨M2, some (.lst [.int x0, .int x1, .int x2]), some d2, p8, p9, ?_⟩
  unfold b2
  rw [seq_set (d := .lst [.int x0, .int x1, .int x2]) (M' := M) (s' := LS scr cs ps u (.tup [.tup vs, .str k]) be (some (.lst (NI (.tup [.tup vs, .str k]) be))) (some (.int c)) (some (.lst [.int x0, .int x1, .int x2])) o7 o8 o9) (by simp [LS, e1']) rfl]
  rw [v_seq (s' := LS scr cs ps u (.tup [.tup vs, .str k]) be (some (.lst (NI (.tup [.tup vs, .str k]) be))) (some (.int c)) (some (.lst [.int x0, .int x1, .int x2])) o7 o8 o9) (M' := M1) (by simp [LS, eb, r0, ne_yes])]
  rw [seq_set (d := d2) (M' := M2) (s' := T o8 o9) (by simp [LS, e4]) rfl]
  exact ef
theorem isnt_non {M : Mem} : isntB M .non .non = some (.bl false) := rfl
theorem law_ok (ns : List Int) (hn : ns.length ≤ 63) : ∃ M', f_law [.arg (ns.map D.int)] [] = .ok (.bl true) M' := by
  obtain ⟨c, e1⟩ := cell_at [] ns 0
  obtain ⟨cs, M1, e2, hC⟩ := columns_ok [] c
  obtain ⟨c2, e3⟩ := cell_at M1 ns 1
  obtain ⟨ps, u, M2, e4, hO⟩ := order_ok M1 hC c2
  obtain ⟨c3, e5⟩ := cell_at M2 ns 2
  obtain ⟨vs, k, be, M3, e6, hv, hk, hk2, hk3, hk4⟩ := gap_ok M2 hC hO u c3
  have kg : ∀ M, f_is_key [.str k] M = .ok (.bl true) M := fun M => key_good M hC hO hv hk hk2
  have co := co_ok M3 hC hO u
  have co2 : f_check_order [.tup (cs.map colD), .tup [.tup [], .str "down"]] M3 = .ok .non M3 := co_ok M3 hC (ps := []) ⟨by decide, by simp, by simp⟩ false
  have cp := cp_ok M3 hC hO u (.str k) vs (kg M3) hv
  have cg := cg_ok M3 _ _ _ be cp
  let scr : D := .arg (ns.map D.int)
  obtain ⟨m, em, _, hm⟩ := cut_map D.int ns (some 3) (some 15)
  let P : D := .tup [.tup vs, .str k]
  obtain ⟨s3, M4, f2, p5, p6, p7, p8, p9, rfl⟩ := for_inv (tg := gSet 5) (b := b2) (it := iSeq (eSl (eVar 0) (oYes (eC (.int 3))) (oYes (eC (.int 15))))) (ds := m.map D.int) (s := LS scr cs ps u P be (some (.lst (NI P be))) none none none none none) (M := M3) (M1 := M3)
    (fun _ s M => ∃ o5 o6 o7 o8 o9, s = LS scr cs ps u P be (some (.lst (NI P be))) o5 o6 o7 o8 o9) (by simp [LS, scr, em]) ⟨none, none, none, none, none, rfl⟩ (by
      rintro i d s M hd ⟨o5, o6, o7, o8, o9, rfl⟩
      rw [List.getElem?_map] at hd
      obtain ⟨x, _, rfl⟩ := Option.map_eq_some_iff.mp hd
      obtain ⟨M', p6, p7, p8, p9, e⟩ := b2_ok scr hC hO u hv hk hk2 hk3 hk4 be x o6 o7 o8 o9 M
      exact ⟨_, _, M', rfl, .inl e, _, _, _, _, _, rfl⟩)
  have cp4 := cp_ok M4 hC hO u (.str k) vs (kg M4) hv
  have cg4 := cg_ok M4 _ _ _ be cp4
  refine ⟨M4, fn_rt rfl ?_⟩
  show m_law [some scr, none, none, none, none, none, none, none, none, none] [] = _
  unfold m_law
  unfold b2 b1 at f2
  have e1' : f__law_cell_at [scr, .int 0] [] = .ok (.int c) [] := e1
  have e3' : f__law_cell_at [scr, .int 1] M1 = .ok (.int c2) M1 := e3
  have e5' : f__law_cell_at [scr, .int 2] M2 = .ok (.int c3) M2 := e5
  have e6' : f__law_gap [.tup (cs.map colD), orderD ps u, .int c3] M2 = .ok (.tup [P, sideD be]) M3 := e6
  have cp' : f_check_place [.tup (cs.map colD), orderD ps u, P] M3 = .ok .non M3 := cp
  have cg' : f_check_gap [.tup (cs.map colD), orderD ps u, .tup [P, sideD be]] M3 = .ok .non M3 := cg
  have cg4' : f_check_gap [.tup (cs.map colD), orderD ps u, .tup [P, sideD be]] M4 = .ok .non M4 := cg4
  generalize P = P' at *
  rw [seq_set (d := .tup (cs.map colD)) (M' := M1) (s' := [some scr, some (.tup (cs.map colD)), none, none, none, none, none, none, none, none]) (by simp [e1', e2]) rfl]
  rw [seq_set (d := orderD ps u) (M' := M2) (s' := [some scr, some (.tup (cs.map colD)), some (orderD ps u), none, none, none, none, none, none, none]) (by simp [e3', e4]) rfl]
  rw [seq_set (d := .tup [P', sideD be]) (M' := M3) (s' := LS scr cs ps u P' be none none none none none none) (by simp [e5', e6']) rfl]
  rw [v_seq (s' := LS scr cs ps u P' be none none none none none none) (M' := M3) (by simp [LS, co, co2, isnt_non])]
  rw [v_seq (s' := LS scr cs ps u P' be none none none none none none) (M' := M3) (by simp [LS, cp', cg', isnt_non])]
  rw [seq_set (d := .lst ((NI P' be).take 1)) (M' := M3) (s' := LS scr cs ps u P' be (some (.lst ((NI P' be).take 1))) none none none none none) (by simp [LS, NI]) rfl]
  rw [seq_set (d := .lst ((NI P' be).take 5)) (M' := M3) (s' := LS scr cs ps u P' be (some (.lst ((NI P' be).take 5))) none none none none none) (by simp [LS, NI, w_addL]) rfl]
  rw [seq_set (d := .lst (NI P' be)) (M' := M3) (s' := LS scr cs ps u P' be (some (.lst (NI P' be))) none none none none none) (by simp [LS, NI, w_addL, lListOf, seqD, listD]) rfl]
  rw [v_seq f2]
  simp [LS, cg4']
end PL
end LW
namespace LW
open PySem PySem.Spec PyProof.Rows L2 MM
def d_is_whole : He.DefD := ⟨("is_whole", none), "is_whole", "is_whole", defArgs st_is_whole, defBody st_is_whole, defScope st_is_whole, [], []⟩
def d_is_key : He.DefD := ⟨("is_key", none), "is_key", "is_key", defArgs st_is_key, defBody st_is_key, defScope st_is_key, [], []⟩
def d_is_word : He.DefD := ⟨("is_word", none), "is_word", "is_word", defArgs st_is_word, defBody st_is_word, defScope st_is_word, [], []⟩
def d_is_value : He.DefD := ⟨("is_value", none), "is_value", "is_value", defArgs st_is_value, defBody st_is_value, defScope st_is_value, [], []⟩
def d_is_tuple : He.DefD := ⟨("is_tuple", none), "is_tuple", "is_tuple", defArgs st_is_tuple, defBody st_is_tuple, defScope st_is_tuple, [], []⟩
def d_column_at : He.DefD := ⟨("column_at", none), "column_at", "column_at", defArgs st_column_at, defBody st_column_at, defScope st_column_at, [], []⟩
def d_kind_named : He.DefD := ⟨("kind_named", none), "kind_named", "kind_named", defArgs st_kind_named, defBody st_kind_named, defScope st_kind_named, [], []⟩
def d_is_part : He.DefD := ⟨("is_part", none), "is_part", "is_part", defArgs st_is_part, defBody st_is_part, defScope st_is_part, [], []⟩
def d_check_order : He.DefD := ⟨("check_order", none), "check_order", "check_order", defArgs st_check_order, defBody st_check_order, defScope st_check_order, [], []⟩
def d_check_place : He.DefD := ⟨("check_place", none), "check_place", "check_place", defArgs st_check_place, defBody st_check_place, defScope st_check_place, [], []⟩
def d_check_gap : He.DefD := ⟨("check_gap", none), "check_gap", "check_gap", defArgs st_check_gap, defBody st_check_gap, defScope st_check_gap, [], []⟩
def d__law_cell_at : He.DefD := ⟨("_law_cell_at", none), "_law_cell_at", "_law_cell_at", defArgs st__law_cell_at, defBody st__law_cell_at, defScope st__law_cell_at, [], []⟩
def d__law_draws : He.DefD := ⟨("_law_draws", none), "_law_draws", "_law_draws", defArgs st__law_draws, defBody st__law_draws, defScope st__law_draws, [], []⟩
def d__law_columns : He.DefD := ⟨("_law_columns", none), "_law_columns", "_law_columns", defArgs st__law_columns, defBody st__law_columns, defScope st__law_columns, [], []⟩
def d__law_value : He.DefD := ⟨("_law_value", none), "_law_value", "_law_value", defArgs st__law_value, defBody st__law_value, defScope st__law_value, [], []⟩
def d__law_key : He.DefD := ⟨("_law_key", none), "_law_key", "_law_key", defArgs st__law_key, defBody st__law_key, defScope st__law_key, [], []⟩
def d__law_order : He.DefD := ⟨("_law_order", none), "_law_order", "_law_order", defArgs st__law_order, defBody st__law_order, defScope st__law_order, [], []⟩
def d__law_gap : He.DefD := ⟨("_law_gap", none), "_law_gap", "_law_gap", defArgs st__law_gap, defBody st__law_gap, defScope st__law_gap, [], []⟩
def d__law_refused : He.DefD := ⟨("_law_refused", none), "_law_refused", "_law_refused", defArgs st__law_refused, defBody st__law_refused, defScope st__law_refused, [], []⟩
def d__law_bad_order : He.DefD := ⟨("_law_bad_order", none), "_law_bad_order", "_law_bad_order", defArgs st__law_bad_order, defBody st__law_bad_order, defScope st__law_bad_order, [], []⟩
def d__law_bad_place : He.DefD := ⟨("_law_bad_place", none), "_law_bad_place", "_law_bad_place", defArgs st__law_bad_place, defBody st__law_bad_place, defScope st__law_bad_place, [], []⟩
def d_law : He.DefD := ⟨("law", none), "law", "law", defArgs st_law, defBody st_law, defScope st_law, [], []⟩
def fns : List He.DefD := [d_is_whole, d_is_key, d_is_word, d_is_value, d_is_tuple, d_column_at, d_kind_named, d_is_part, d_check_order, d_check_place, d_check_gap, d__law_cell_at, d__law_draws, d__law_columns, d__law_value, d__law_key, d__law_order, d__law_gap, d__law_refused, d__law_bad_order, d__law_bad_place, d_law]
def cks0 : List Ck := [.fa (.glo "is_whole"), .fa (.glo "is_key"), .fa (.glo "is_word"), .fa (.glo "is_value"), .fa (.glo "is_tuple"), .fa (.glo "column_at"), .fa (.glo "kind_named"), .fa (.glo "is_part"), .fa (.glo "check_order"), .fa (.glo "check_place"), .fa (.glo "check_gap"), .fa (.glo "_law_cell_at"), .fa (.glo "_law_draws"), .fa (.glo "_law_columns"), .fa (.glo "_law_value"), .fa (.glo "_law_key"), .fa (.glo "_law_order"), .fa (.glo "_law_gap"), .fa (.glo "_law_refused"), .fa (.glo "_law_bad_order"), .fa (.glo "_law_bad_place"), .fa (.glo "law"), .fa (.free "int"), .fa (.free "isinstance"), .fa (.free "all"), .fa (.free "len"), .fa (.free "str"), .fa (.free "tuple"), .fa (.free "enumerate"), .fa (.free "set"), .fa (.free "zip"), .fa (.free "range"), .fa (.free "min"), .fa (.free "dict"), .fa (.free "list"), .fa (.str "FIGURES" "0123456789"), .fa (.str "SMALL" "abcdefghijklmnopqrstuvwxyz"), .fa (.int "MOST_SIGNS" 40), .fa (.glo "ENDS"), .tup "ENDS" [.str "first", .str "last"], .fa (.glo "WAYS"), .tup "WAYS" [.str "up", .str "down"], .fa (.int "MOST_PARTS" 8), .fa (.glo "SIDES"), .tup "SIDES" [.str "ahead", .str "behind"], .fa (.exc "BadOrder"), .fa (.exc "BadPlace"), .fa (.exc "PageError"), .fa (.glo "BadColumns"), .fa (.glo "BadOrder"), .fa (.glo "BadPlace"), .fa (.glo "BadSieve"), .fa (.glo "PageError")]
def cks : List Ck := cks0 ++ (tb_PageError.map (fun p => Ck.exm p.1 "PageError" p.2) ++ (ktA.map (fun q => Ck.kit q.1.1 q.1.2 q.2) ++ (excs.map Ck.xc)))
def names0 : List PySem.Str := ["__name__", "PageError", "BadColumns", "BadOrder", "BadSieve", "BadPlace", "SMALL", "FIGURES", "MOST_SIGNS", "is_whole", "is_key", "is_word", "is_value", "is_tuple", "column_at", "kind_named", "WAYS", "ENDS", "SIDES", "MOST_PARTS", "is_part", "check_order", "check_place", "check_gap", "_law_cell_at", "_law_draws", "_law_columns", "_law_value", "_law_key", "_law_order"]
def names1 : List PySem.Str := ["_law_gap", "_law_refused", "_law_bad_order", "_law_bad_place"]
def names : List PySem.Str := names0 ++ names1
abbrev RR : PySem.W.OpenRow := PySem.W.OpenLaw.row PySem.Challenge.rw_pageturns_k05_orders_places_gaps_known
abbrev hkM : PySem.W.Hook := hookC 4 cks fns
def obM (s : PySem.W.SharedT) : He.AlD := obsCG 4 cks fns (HandSHeadRun.getT s)
theorem obM_eq (s : PySem.W.SharedT) : obM s = hkM.obs s.abs := obsCG_eq (HandSHeadRun.getT_eq s)
theorem runM (w : World) : HandSHeadRun.RunEq RR (PySem.W.view RR.prog [38]) hkM obM 4000 names w := by intro os; kernel_rfl
theorem factsM {P : Program} {w : World} {K : PySem.W.Frag} {h : Heap} {mg : Str → Option Value} {f : Addr} (X : K.In h) (G : h.Ns mainGlobals mg) (hf : mg ("law" : Str) = some (.ref f)) (c : SaysC cks fns K) :
    ∃ fd : FuncData, (∀ (s : Shared) (v : Value), BindsTo s fd ⟨[v], []⟩ [("_law_script", v)]) ∧ ∀ base : Heap, K.In base → base.Ns mainGlobals mg → FnS P w K mg base 6 f fd ["_law_script"] f_law := by
  obtain ⟨fd_is_whole, D_is_whole⟩ : ∃ fd, FunD K "is_whole" "is_whole" (defArgs st_is_whole) (defBody st_is_whole) (defScope st_is_whole) [] [] (He.ga K "is_whole") fd := c.def_ 0 (d := d_is_whole) rfl
  have g_is_whole := He.glo_ok X G (c.ck 0 (f := .fa (.glo "is_whole")) rfl)
  obtain ⟨fd_is_key, D_is_key⟩ : ∃ fd, FunD K "is_key" "is_key" (defArgs st_is_key) (defBody st_is_key) (defScope st_is_key) [] [] (He.ga K "is_key") fd := c.def_ 1 (d := d_is_key) rfl
  have g_is_key := He.glo_ok X G (c.ck 1 (f := .fa (.glo "is_key")) rfl)
  obtain ⟨fd_is_word, D_is_word⟩ : ∃ fd, FunD K "is_word" "is_word" (defArgs st_is_word) (defBody st_is_word) (defScope st_is_word) [] [] (He.ga K "is_word") fd := c.def_ 2 (d := d_is_word) rfl
  have g_is_word := He.glo_ok X G (c.ck 2 (f := .fa (.glo "is_word")) rfl)
  obtain ⟨fd_is_value, D_is_value⟩ : ∃ fd, FunD K "is_value" "is_value" (defArgs st_is_value) (defBody st_is_value) (defScope st_is_value) [] [] (He.ga K "is_value") fd := c.def_ 3 (d := d_is_value) rfl
  have g_is_value := He.glo_ok X G (c.ck 3 (f := .fa (.glo "is_value")) rfl)
  obtain ⟨fd_is_tuple, D_is_tuple⟩ : ∃ fd, FunD K "is_tuple" "is_tuple" (defArgs st_is_tuple) (defBody st_is_tuple) (defScope st_is_tuple) [] [] (He.ga K "is_tuple") fd := c.def_ 4 (d := d_is_tuple) rfl
  have g_is_tuple := He.glo_ok X G (c.ck 4 (f := .fa (.glo "is_tuple")) rfl)
  obtain ⟨fd_column_at, D_column_at⟩ : ∃ fd, FunD K "column_at" "column_at" (defArgs st_column_at) (defBody st_column_at) (defScope st_column_at) [] [] (He.ga K "column_at") fd := c.def_ 5 (d := d_column_at) rfl
  have g_column_at := He.glo_ok X G (c.ck 5 (f := .fa (.glo "column_at")) rfl)
  obtain ⟨fd_kind_named, D_kind_named⟩ : ∃ fd, FunD K "kind_named" "kind_named" (defArgs st_kind_named) (defBody st_kind_named) (defScope st_kind_named) [] [] (He.ga K "kind_named") fd := c.def_ 6 (d := d_kind_named) rfl
  have g_kind_named := He.glo_ok X G (c.ck 6 (f := .fa (.glo "kind_named")) rfl)
  obtain ⟨fd_is_part, D_is_part⟩ : ∃ fd, FunD K "is_part" "is_part" (defArgs st_is_part) (defBody st_is_part) (defScope st_is_part) [] [] (He.ga K "is_part") fd := c.def_ 7 (d := d_is_part) rfl
  have g_is_part := He.glo_ok X G (c.ck 7 (f := .fa (.glo "is_part")) rfl)
  obtain ⟨fd_check_order, D_check_order⟩ : ∃ fd, FunD K "check_order" "check_order" (defArgs st_check_order) (defBody st_check_order) (defScope st_check_order) [] [] (He.ga K "check_order") fd := c.def_ 8 (d := d_check_order) rfl
  have g_check_order := He.glo_ok X G (c.ck 8 (f := .fa (.glo "check_order")) rfl)
  obtain ⟨fd_check_place, D_check_place⟩ : ∃ fd, FunD K "check_place" "check_place" (defArgs st_check_place) (defBody st_check_place) (defScope st_check_place) [] [] (He.ga K "check_place") fd := c.def_ 9 (d := d_check_place) rfl
  have g_check_place := He.glo_ok X G (c.ck 9 (f := .fa (.glo "check_place")) rfl)
  obtain ⟨fd_check_gap, D_check_gap⟩ : ∃ fd, FunD K "check_gap" "check_gap" (defArgs st_check_gap) (defBody st_check_gap) (defScope st_check_gap) [] [] (He.ga K "check_gap") fd := c.def_ 10 (d := d_check_gap) rfl
  have g_check_gap := He.glo_ok X G (c.ck 10 (f := .fa (.glo "check_gap")) rfl)
  obtain ⟨fd__law_cell_at, D__law_cell_at⟩ : ∃ fd, FunD K "_law_cell_at" "_law_cell_at" (defArgs st__law_cell_at) (defBody st__law_cell_at) (defScope st__law_cell_at) [] [] (He.ga K "_law_cell_at") fd := c.def_ 11 (d := d__law_cell_at) rfl
  have g__law_cell_at := He.glo_ok X G (c.ck 11 (f := .fa (.glo "_law_cell_at")) rfl)
  obtain ⟨fd__law_draws, D__law_draws⟩ : ∃ fd, FunD K "_law_draws" "_law_draws" (defArgs st__law_draws) (defBody st__law_draws) (defScope st__law_draws) [] [] (He.ga K "_law_draws") fd := c.def_ 12 (d := d__law_draws) rfl
  have g__law_draws := He.glo_ok X G (c.ck 12 (f := .fa (.glo "_law_draws")) rfl)
  obtain ⟨fd__law_columns, D__law_columns⟩ : ∃ fd, FunD K "_law_columns" "_law_columns" (defArgs st__law_columns) (defBody st__law_columns) (defScope st__law_columns) [] [] (He.ga K "_law_columns") fd := c.def_ 13 (d := d__law_columns) rfl
  have g__law_columns := He.glo_ok X G (c.ck 13 (f := .fa (.glo "_law_columns")) rfl)
  obtain ⟨fd__law_value, D__law_value⟩ : ∃ fd, FunD K "_law_value" "_law_value" (defArgs st__law_value) (defBody st__law_value) (defScope st__law_value) [] [] (He.ga K "_law_value") fd := c.def_ 14 (d := d__law_value) rfl
  have g__law_value := He.glo_ok X G (c.ck 14 (f := .fa (.glo "_law_value")) rfl)
  obtain ⟨fd__law_key, D__law_key⟩ : ∃ fd, FunD K "_law_key" "_law_key" (defArgs st__law_key) (defBody st__law_key) (defScope st__law_key) [] [] (He.ga K "_law_key") fd := c.def_ 15 (d := d__law_key) rfl
  have g__law_key := He.glo_ok X G (c.ck 15 (f := .fa (.glo "_law_key")) rfl)
  obtain ⟨fd__law_order, D__law_order⟩ : ∃ fd, FunD K "_law_order" "_law_order" (defArgs st__law_order) (defBody st__law_order) (defScope st__law_order) [] [] (He.ga K "_law_order") fd := c.def_ 16 (d := d__law_order) rfl
  have g__law_order := He.glo_ok X G (c.ck 16 (f := .fa (.glo "_law_order")) rfl)
  obtain ⟨fd__law_gap, D__law_gap⟩ : ∃ fd, FunD K "_law_gap" "_law_gap" (defArgs st__law_gap) (defBody st__law_gap) (defScope st__law_gap) [] [] (He.ga K "_law_gap") fd := c.def_ 17 (d := d__law_gap) rfl
  have g__law_gap := He.glo_ok X G (c.ck 17 (f := .fa (.glo "_law_gap")) rfl)
  obtain ⟨fd__law_refused, D__law_refused⟩ : ∃ fd, FunD K "_law_refused" "_law_refused" (defArgs st__law_refused) (defBody st__law_refused) (defScope st__law_refused) [] [] (He.ga K "_law_refused") fd := c.def_ 18 (d := d__law_refused) rfl
  have g__law_refused := He.glo_ok X G (c.ck 18 (f := .fa (.glo "_law_refused")) rfl)
  obtain ⟨fd__law_bad_order, D__law_bad_order⟩ : ∃ fd, FunD K "_law_bad_order" "_law_bad_order" (defArgs st__law_bad_order) (defBody st__law_bad_order) (defScope st__law_bad_order) [] [] (He.ga K "_law_bad_order") fd := c.def_ 19 (d := d__law_bad_order) rfl
  have g__law_bad_order := He.glo_ok X G (c.ck 19 (f := .fa (.glo "_law_bad_order")) rfl)
  obtain ⟨fd__law_bad_place, D__law_bad_place⟩ : ∃ fd, FunD K "_law_bad_place" "_law_bad_place" (defArgs st__law_bad_place) (defBody st__law_bad_place) (defScope st__law_bad_place) [] [] (He.ga K "_law_bad_place") fd := c.def_ 20 (d := d__law_bad_place) rfl
  have g__law_bad_place := He.glo_ok X G (c.ck 20 (f := .fa (.glo "_law_bad_place")) rfl)
  obtain ⟨fd_law, D_law⟩ : ∃ fd, FunD K "law" "law" (defArgs st_law) (defBody st_law) (defScope st_law) [] [] (He.ga K "law") fd := c.def_ 21 (d := d_law) rfl
  have g_law := He.glo_ok X G (c.ck 21 (f := .fa (.glo "law")) rfl)
  have b_int := He.free_ok X G (c.ck 22 (f := .fa (.free "int")) rfl)
  have b_isinstance := He.free_ok X G (c.ck 23 (f := .fa (.free "isinstance")) rfl)
  have b_all := He.free_ok X G (c.ck 24 (f := .fa (.free "all")) rfl)
  have b_len := He.free_ok X G (c.ck 25 (f := .fa (.free "len")) rfl)
  have b_str := He.free_ok X G (c.ck 26 (f := .fa (.free "str")) rfl)
  have b_tuple := He.free_ok X G (c.ck 27 (f := .fa (.free "tuple")) rfl)
  have b_enumerate := He.free_ok X G (c.ck 28 (f := .fa (.free "enumerate")) rfl)
  have b_set := He.free_ok X G (c.ck 29 (f := .fa (.free "set")) rfl)
  have b_zip := He.free_ok X G (c.ck 30 (f := .fa (.free "zip")) rfl)
  have b_range := He.free_ok X G (c.ck 31 (f := .fa (.free "range")) rfl)
  have b_min := He.free_ok X G (c.ck 32 (f := .fa (.free "min")) rfl)
  have b_dict := He.free_ok X G (c.ck 33 (f := .fa (.free "dict")) rfl)
  have b_list := He.free_ok X G (c.ck 34 (f := .fa (.free "list")) rfl)
  have c_FIGURES : Con K mg "FIGURES" k_FIGURES := con_str (He.str_ok X G (c.ck 35 (f := .fa (.str "FIGURES" "0123456789")) rfl)).choose_spec (by decide +kernel)
  have c_SMALL : Con K mg "SMALL" k_SMALL := con_str (He.str_ok X G (c.ck 36 (f := .fa (.str "SMALL" "abcdefghijklmnopqrstuvwxyz")) rfl)).choose_spec (by decide +kernel)
  have c_MOST_SIGNS : Con K mg "MOST_SIGNS" k_MOST_SIGNS := con_int (He.int_ok X G (c.ck 37 (f := .fa (.int "MOST_SIGNS" 40)) rfl)).choose_spec
  have c_ENDS : Con K mg "ENDS" k_ENDS := con_tup (vs := [.str "first", .str "last"]) (He.glo_ok X G (c.ck 38 (f := .fa (.glo "ENDS")) rfl)) (c.ck 39 rfl) fun _ => .cons (.str _ (by decide +kernel)) (.cons (.str _ (by decide +kernel)) (.nil))
  have c_WAYS : Con K mg "WAYS" k_WAYS := con_tup (vs := [.str "up", .str "down"]) (He.glo_ok X G (c.ck 40 (f := .fa (.glo "WAYS")) rfl)) (c.ck 41 rfl) fun _ => .cons (.str _ (by decide +kernel)) (.cons (.str _ (by decide +kernel)) (.nil))
  have c_MOST_PARTS : Con K mg "MOST_PARTS" k_MOST_PARTS := con_int (He.int_ok X G (c.ck 42 (f := .fa (.int "MOST_PARTS" 8)) rfl)).choose_spec
  have c_SIDES : Con K mg "SIDES" k_SIDES := con_tup (vs := [.str "ahead", .str "behind"]) (He.glo_ok X G (c.ck 43 (f := .fa (.glo "SIDES")) rfl)) (c.ck 44 rfl) fun _ => .cons (.str _ (by decide +kernel)) (.cons (.str _ (by decide +kernel)) (.nil))
  have g_BadColumns : mg (Str.ofString "BadColumns") = some (.ref (He.ga K (Str.ofString "BadColumns"))) := He.glo_ok X G (c.ck 48 (f := .fa (.glo "BadColumns")) rfl)
  have g_BadOrder : mg (Str.ofString "BadOrder") = some (.ref (He.ga K (Str.ofString "BadOrder"))) := He.glo_ok X G (c.ck 49 (f := .fa (.glo "BadOrder")) rfl)
  have g_BadPlace : mg (Str.ofString "BadPlace") = some (.ref (He.ga K (Str.ofString "BadPlace"))) := He.glo_ok X G (c.ck 50 (f := .fa (.glo "BadPlace")) rfl)
  have g_BadSieve : mg (Str.ofString "BadSieve") = some (.ref (He.ga K (Str.ofString "BadSieve"))) := He.glo_ok X G (c.ck 51 (f := .fa (.glo "BadSieve")) rfl)
  have g_PageError : mg (Str.ofString "PageError") = some (.ref (He.ga K (Str.ofString "PageError"))) := He.glo_ok X G (c.ck 52 (f := .fa (.glo "PageError")) rfl)
  have o_BadOrder : OwnExc K mg "BadOrder" := own_exc g_BadOrder (c.ck 45 (f := .fa (.exc "BadOrder")) rfl) (by decide)
  have o_BadPlace : OwnExc K mg "BadPlace" := own_exc g_BadPlace (c.ck 46 (f := .fa (.exc "BadPlace")) rfl) (by decide)
  have o_PageError : OwnExc K mg "PageError" := own_exc g_PageError (c.ck 47 (f := .fa (.exc "PageError")) rfl) (by decide)
  have x_PageError : ∀ p ∈ tb_PageError, PySem.W.exmOne K (exV K p.1) (exV K "PageError") = some p.2 := fun p hp => Ck.exm_ok (c.mem (List.mem_append_right _ (List.mem_append_left _ (List.mem_map.mpr ⟨p, hp, rfl⟩))))
  have kin : Kin K excs ktA := ⟨by decide +kernel, fun p hp => Ck.xc_ok (c.mem (List.mem_append_right _ (List.mem_append_right _ (List.mem_append_right _ ((List.mem_map.mpr ⟨p, hp, rfl⟩)))))), fun p hp => Ck.kit_ok (c.mem (List.mem_append_right _ (List.mem_append_right _ (List.mem_append_left _ (List.mem_map.mpr ⟨p, hp, rfl⟩)))))⟩
  cases hf.symm.trans g_law
  refine ⟨fd_law, fun s v => FunD.bindsA (ps := ["_law_script"]) D_law (fun _ _ _ _ _ _ us hl => match us, hl with | [_], _ => rfl) s [v] rfl, fun base _ _ => ?_⟩
  have G__law_bad_order : GFn P w K mg base "_law_bad_order" 1 3 [] f__law_bad_order := gfn0 (st := st__law_bad_order) D__law_bad_order g__law_bad_order (ps := ["_law_columns_here", "_law_order_here", "_law_xs"]) (FunD.bindsN D__law_bad_order fun _ _ _ _ _ _ us hl => match us, hl with | [_, _, _], _ => rfl) fun F => ok__law_bad_order F b_len b_list
  have G__law_bad_place : GFn P w K mg base "_law_bad_place" 1 4 [] f__law_bad_place := gfn0 (st := st__law_bad_place) D__law_bad_place g__law_bad_place (ps := ["_law_columns_here", "_law_order_here", "_law_place", "_law_xs"]) (FunD.bindsN D__law_bad_place fun _ _ _ _ _ _ us hl => match us, hl with | [_, _, _, _], _ => rfl) fun F => ok__law_bad_place F b_dict b_len b_list
  have G__law_cell_at : GFn P w K mg base "_law_cell_at" 1 2 [] f__law_cell_at := gfn0 (st := st__law_cell_at) D__law_cell_at g__law_cell_at (ps := ["_law_script", "_law_k"]) (FunD.bindsN D__law_cell_at fun _ _ _ _ _ _ us hl => match us, hl with | [_, _], _ => rfl) fun F => ok__law_cell_at F b_len
  have G__law_draws : GFn P w K mg base "_law_draws" 1 2 [] f__law_draws := gfn0 (st := st__law_draws) D__law_draws g__law_draws (ps := ["_law_cell", "_law_many"]) (FunD.bindsN D__law_draws fun _ _ _ _ _ _ us hl => match us, hl with | [_, _], _ => rfl) fun F => ok__law_draws F b_len b_range
  have G__law_columns : GFn P w K mg base "_law_columns" 2 1 [] f__law_columns := gfn0 (st := st__law_columns) D__law_columns g__law_columns (ps := ["_law_cell"]) (FunD.bindsN D__law_columns fun _ _ _ _ _ _ us hl => match us, hl with | [_], _ => rfl) fun F => ok__law_columns F b_range b_tuple G__law_draws
  have G__law_key : GFn P w K mg base "_law_key" 1 1 [] f__law_key := gfn0 (st := st__law_key) D__law_key g__law_key (ps := ["_law_x"]) (FunD.bindsN D__law_key fun _ _ _ _ _ _ us hl => match us, hl with | [_], _ => rfl) fun F => ok__law_key F
  have G__law_value : GFn P w K mg base "_law_value" 1 2 [] f__law_value := gfn0 (st := st__law_value) D__law_value g__law_value (ps := ["_law_kind", "_law_x"]) (FunD.bindsN D__law_value fun _ _ _ _ _ _ us hl => match us, hl with | [_, _], _ => rfl) fun F => ok__law_value F
  have G__law_gap : GFn P w K mg base "_law_gap" 2 3 [] f__law_gap := gfn0 (st := st__law_gap) D__law_gap g__law_gap (ps := ["_law_columns_here", "_law_order_here", "_law_cell"]) (FunD.bindsN D__law_gap fun _ _ _ _ _ _ us hl => match us, hl with | [_, _, _], _ => rfl) fun F => ok__law_gap F b_dict b_len b_range b_tuple G__law_draws G__law_key G__law_value
  have G__law_order : GFn P w K mg base "_law_order" 2 2 [] f__law_order := gfn0 (st := st__law_order) D__law_order g__law_order (ps := ["_law_columns_here", "_law_cell"]) (FunD.bindsN D__law_order fun _ _ _ _ _ _ us hl => match us, hl with | [_, _], _ => rfl) fun F => ok__law_order F b_len b_min b_range b_tuple G__law_draws
  have G_is_key : GFn P w K mg base "is_key" 1 1 [] f_is_key := gfn0 (st := st_is_key) D_is_key g_is_key (ps := ["thing"]) (FunD.bindsN D_is_key fun _ _ _ _ _ _ us hl => match us, hl with | [_], _ => rfl) fun F => ok_is_key F b_all b_isinstance b_len b_str c_FIGURES c_SMALL
  have G_is_tuple : GFn P w K mg base "is_tuple" 1 2 [] f_is_tuple := gfn0 (st := st_is_tuple) D_is_tuple g_is_tuple (ps := ["thing", "many"]) (FunD.bindsN D_is_tuple fun _ _ _ _ _ _ us hl => match us, hl with | [_, _], _ => rfl) fun F => ok_is_tuple F b_isinstance b_len b_tuple
  have G_is_whole : GFn P w K mg base "is_whole" 1 1 [] f_is_whole := gfn0 (st := st_is_whole) D_is_whole g_is_whole (ps := ["thing"]) (FunD.bindsN D_is_whole fun _ _ _ _ _ _ us hl => match us, hl with | [_], _ => rfl) fun F => ok_is_whole F b_int b_isinstance
  have G_is_word : GFn P w K mg base "is_word" 1 1 [] f_is_word := gfn0 (st := st_is_word) D_is_word g_is_word (ps := ["thing"]) (FunD.bindsN D_is_word fun _ _ _ _ _ _ us hl => match us, hl with | [_], _ => rfl) fun F => ok_is_word F b_all b_isinstance b_len b_str c_MOST_SIGNS
  have G_is_value : GFn P w K mg base "is_value" 2 2 [] f_is_value := gfn0 (st := st_is_value) D_is_value g_is_value (ps := ["kind", "thing"]) (FunD.bindsN D_is_value fun _ _ _ _ _ _ us hl => match us, hl with | [_, _], _ => rfl) fun F => ok_is_value F G_is_whole G_is_word
  have G_column_at : GFn P w K mg base "column_at" 1 2 [] f_column_at := gfn0 (st := st_column_at) D_column_at g_column_at (ps := ["columns", "name"]) (FunD.bindsN D_column_at fun _ _ _ _ _ _ us hl => match us, hl with | [_, _], _ => rfl) fun F => ok_column_at F b_enumerate
  have G_kind_named : GFn P w K mg base "kind_named" 2 2 [] f_kind_named := gfn0 (st := st_kind_named) D_kind_named g_kind_named (ps := ["columns", "name"]) (FunD.bindsN D_kind_named fun _ _ _ _ _ _ us hl => match us, hl with | [_, _], _ => rfl) fun F => ok_kind_named F G_column_at
  have G_check_place : GFn P w K mg base "check_place" 3 3 [] f_check_place := gfn0 (st := st_check_place) D_check_place g_check_place (ps := ["columns", "order", "place"]) (FunD.bindsN D_check_place fun _ _ _ _ _ _ us hl => match us, hl with | [_, _, _], _ => rfl) fun F => ok_check_place F b_len b_zip o_BadPlace G_is_key G_is_tuple G_is_value G_kind_named
  have G_check_gap : GFn P w K mg base "check_gap" 4 3 [] f_check_gap := gfn0 (st := st_check_gap) D_check_gap g_check_gap (ps := ["columns", "order", "gap"]) (FunD.bindsN D_check_gap fun _ _ _ _ _ _ us hl => match us, hl with | [_, _, _], _ => rfl) fun F => ok_check_gap F c_SIDES o_BadPlace G_check_place G_is_tuple
  have G_is_part : GFn P w K mg base "is_part" 3 2 [] f_is_part := gfn0 (st := st_is_part) D_is_part g_is_part (ps := ["columns", "thing"]) (FunD.bindsN D_is_part fun _ _ _ _ _ _ us hl => match us, hl with | [_, _], _ => rfl) fun F => ok_is_part F c_ENDS c_WAYS G_is_tuple G_kind_named
  have G_check_order : GFn P w K mg base "check_order" 4 2 [] f_check_order := gfn0 (st := st_check_order) D_check_order g_check_order (ps := ["columns", "order"]) (FunD.bindsN D_check_order fun _ _ _ _ _ _ us hl => match us, hl with | [_, _], _ => rfl) fun F => ok_check_order F b_all b_isinstance b_len b_set b_tuple c_MOST_PARTS c_WAYS o_BadOrder G_is_part G_is_tuple
  have G__law_refused : GFn P w K mg base "_law_refused" 5 4 [] f__law_refused := gfn0 (st := st__law_refused) D__law_refused g__law_refused (ps := ["_law_columns_here", "_law_order_here", "_law_gap_here", "_law_way"]) (FunD.bindsN D__law_refused fun _ _ _ _ _ _ us hl => match us, hl with | [_, _, _, _], _ => rfl) fun F => ok__law_refused F b_isinstance o_PageError g_BadColumns g_BadOrder g_BadPlace g_BadSieve x_PageError kin G_check_gap G_check_order G_check_place
  exact ok_law (fun0 (st := st_law) D_law) b_len b_list G__law_bad_order G__law_bad_place G__law_cell_at G__law_columns G__law_draws G__law_gap G__law_order G__law_refused G_check_gap G_check_order G_check_place
end LW
open PySem PySem.W PySem.Calls PyProof.Rows
theorem PySem.Challenge.cw_pageturns_k05_orders_places_gaps_known_holds : PySem.Challenge.rw_pageturns_k05_orders_places_gaps_known.Holds := by
  w_on; o_law
  refine HandSHeadRun.head_any (r := OpenLaw.row PySem.Challenge.rw_pageturns_k05_orders_places_gaps_known) (q := view (OpenLaw.row PySem.Challenge.rw_pageturns_k05_orders_places_gaps_known).prog [38]) (H := LW.hkM) (ob := LW.obM) (M := 4000) (loose := LW.names) (d := HandSHeadRun.topDef (OpenLaw.row PySem.Challenge.rw_pageturns_k05_orders_places_gaps_known).prog 38) (kwd := []) LW.obM_eq
    (by kernel_rfl) (fun s => by kernel_rfl) LW.runM (by kernel_rfl) (by kernel_rfl) (by kernel_rfl) (by rfl) (by first | assumption | decide +kernel) (by decide +kernel) ⟨rfl, rfl, rfl, rfl, rfl, by decide +kernel⟩ ?hw ?hc
  case hw => w_witness2
  case hc =>
    refine MM.walkM (l := PySem.Challenge.rw_pageturns_k05_orders_places_gaps_known) (k := 6) (x := "_law_script") (m := LW.f_law) rfl (by kernel_rfl) ⟨rfl, by decide, by decide⟩ ?F LW.PL.law_ok
    intro w mg fa h Y G hmg0
    obtain ⟨K, KX, c⟩ := Y
    have hmg : mg ("law" : PySem.Str) = some (.ref fa) := by
      have e : (HandSHeadRun.topDef (OpenLaw.row PySem.Challenge.rw_pageturns_k05_orders_places_gaps_known).prog 38).name = ("law" : PySem.Str) := by kernel_rfl
      exact e ▸ hmg0
    obtain ⟨fd, hb, hF⟩ := LW.factsM (P := (PySem.Challenge.rw_pageturns_k05_orders_places_gaps_known).prog) (w := w) KX G hmg c
    exact ⟨K, fd, KX, hb, hF⟩
