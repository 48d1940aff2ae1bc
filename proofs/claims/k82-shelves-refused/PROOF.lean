import PyProof.Rows.All
import Wide.All
import OpenK.AllK
import Wide.FinOn
import HandS.ForMost
import HandS.Exc
import HandS.ExcOwn
import HandS.TryOnly
import HandS.WordsExc
import HandS.Lambda
import HandS.EndTab
import HandS.IsInst
import HandS.Walk
import HandS.Wide
import HandS.Deep
import HandS.CallSlots
import HandS.Zip
import HandS.ExcCtx
import HandS.HotCalls
import HandS.ExcIs
import HandS.TupAny
import HandS.Replace
import HandS.StrMore
import HandS.TupMul
import KE.KNestM
import HandS.DictEq
import HandS.StrSplit
import HandS.SortInts
import HandS.More
import HandS.Strs
import HandS.Style
import PyProof.StrOps2
import PyProof.Rows.StrMul
import HandS.Defaults
import HandS.Head0
import HandS.Head1
import HandS.Head2
import HandS.HeadEnd
import HandS.HeadHook1
import HandS.HeadHook2
import HandS.HeadHook3
import HandS.HeadHook4
import HandS.HeadWalk
import HandS.Conv
import PySem.Challenge.RW_holewalks_k82_shelves_refused
set_option Elab.async false
set_option linter.all false
set_option maxRecDepth 100000
set_option maxHeartbeats 0
/-! HwA: a plain evaluator for the part of Python that the laws use (values D, a store of live cells), and what it means that a heap bears such a state. -/
namespace Hw
open PySem L2

/-! ### values and the store -/
/-- a value as a tree: tuples, lists and dicts that nobody changes any more are written out; what may still be changed stands in the store, at loc n -/
inductive D where
  | non | bl (b : Bool) | int (i : Int) | str (s : Str) | tup (xs : List D) | lst (xs : List D) | dic (ks : List Key) (xs : List D) | loc (n : Nat) | cls (c : Nat) | fn (f : Nat)
/-- a cell that lives: a list, a dict, an instance of the class c with its fields -/
inductive Cell where
  | lst (xs : List D) | dic (ks : List Key) (xs : List D) | ins (c : Nat) (fs : List Str) (xs : List D)
abbrev Store := List Cell
abbrev Env := List (Option D)

/-- how an expression ends -/
inductive R (α : Type) where
  | ok (a : α) (st : Store) | exc (c : Nat) (st : Store) | stk
/-- how a statement ends -/
inductive F where
  | nx (σ : Env) (st : Store) | rt (d : D) (st : Store) | bk (σ : Env) (st : Store) | ct (σ : Env) (st : Store) | exc (c : Nat) (st : Store) | stk
def R.bind {α β : Type} (r : R α) (f : α → Store → R β) : R β := match r with
  | .ok a st => f a st
  | .exc c st => .exc c st
  | .stk => .stk
def R.thn {α : Type} (r : R α) (f : α → Store → F) : F := match r with
  | .ok a st => f a st
  | .exc c st => .exc c st
  | .stk => .stk
def F.then (r : F) (f : Env → Store → F) : F := match r with
  | .nx σ st => f σ st
  | r => r
abbrev FE := Env → Store → R D
abbrev FA := Env → Store → R (List D)
abbrev FT := Env → Store → R Bool
abbrev FS := Env → Store → F

/-! ### sameness, limits, freezing -/
mutual
def D.beq : D → D → Bool
  | .non, .non => true
  | .bl a, .bl b => a == b
  | .int a, .int b => decide (a = b)
  | .str a, .str b => decide (a = b)
  | .tup a, .tup b => D.beqs a b
  | .lst a, .lst b => D.beqs a b
  | .dic k a, .dic l b => decide (k = l) && D.beqs a b
  | .loc a, .loc b => decide (a = b)
  | .cls a, .cls b => decide (a = b)
  | .fn a, .fn b => decide (a = b)
  | _, _ => false
def D.beqs : List D → List D → Bool
  | [], [] => true
  | x :: xs, y :: ys => D.beq x y && D.beqs xs ys
  | _, _ => false
end
def Cell.beq : Cell → Cell → Bool
  | .lst a, .lst b => D.beqs a b
  | .dic k a, .dic l b => decide (k = l) && D.beqs a b
  | .ins c f a, .ins d g b => decide (c = d) && decide (f = g) && D.beqs a b
  | _, _ => false
mutual
/-- no place n or later is named in it -/
def D.lim (n : Nat) : D → Bool
  | .tup xs => D.lims n xs
  | .lst xs => D.lims n xs
  | .dic _ xs => D.lims n xs
  | .loc k => decide (k < n)
  | _ => true
def D.lims (n : Nat) : List D → Bool
  | [] => true
  | x :: xs => D.lim n x && D.lims n xs
end
def Cell.lim (n : Nat) : Cell → Bool
  | .lst xs => D.lims n xs
  | .dic _ xs => D.lims n xs
  | .ins _ _ xs => D.lims n xs
mutual
/-- the value with the places n and later written out, one step deep -/
def D.frz (n : Nat) (st : Store) : D → D
  | .tup xs => .tup (D.frzs n st xs)
  | .lst xs => .lst (D.frzs n st xs)
  | .dic ks xs => .dic ks (D.frzs n st xs)
  | .loc k => if k < n then .loc k else match st[k]? with
    | some (.lst xs) => .lst xs
    | some (.dic ks xs) => .dic ks xs
    | _ => .loc k
  | d => d
def D.frzs (n : Nat) (st : Store) : List D → List D
  | [] => []
  | x :: xs => D.frz n st x :: D.frzs n st xs
end
def frzN (n : Nat) (st : Store) : Nat → D → D
  | 0, d => d
  | m + 1, d => if D.lim n d then d else frzN n st m (D.frz n st d)
/-- the old cells are as they were, or name no new place -/
def okOld (n : Nat) : Store → Store → Bool
  | [], _ => true
  | _ :: _, [] => false
  | c :: cs, d :: ds => (Cell.beq c d || Cell.lim n d) && okOld n cs ds
/-- a call's end: what it made is written out and forgotten, where nothing else names it -/
def fin (st : Store) (d : D) (st2 : Store) : R D :=
  if okOld st.length st st2 && D.lim st.length (frzN st.length st2 6 d) then .ok (frzN st.length st2 6 d) (st2.take st.length) else .ok d st2
def finX (st : Store) (c : Nat) (st2 : Store) : R D := if okOld st.length st st2 then .exc c (st2.take st.length) else .exc c st2
def endOf (st : Store) : F → R D
  | .rt d st2 => fin st d st2
  | .nx _ st2 => fin st .non st2
  | .exc c st2 => finX st c st2
  | _ => .stk

mutual
theorem D.beq_eq : ∀ (a b : D), D.beq a b = true → a = b
  | .non, b, h => by cases b <;> first | rfl | (simp [D.beq] at h)
  | .bl a, b, h => by cases b <;> first | (simp [D.beq] at h; done) | (simp [D.beq] at h; subst h; rfl)
  | .int a, b, h => by cases b <;> first | (simp [D.beq] at h; done) | (simp [D.beq] at h; subst h; rfl)
  | .str a, b, h => by cases b <;> first | (simp [D.beq] at h; done) | (simp [D.beq] at h; subst h; rfl)
  | .tup a, b, h => by
    cases b with
    | tup b => exact congrArg D.tup (D.beqs_eq a b (by simpa only [D.beq] using h))
    | _ => simp [D.beq] at h
  | .lst a, b, h => by
    cases b with
    | lst b => exact congrArg D.lst (D.beqs_eq a b (by simpa only [D.beq] using h))
    | _ => simp [D.beq] at h
  | .dic k a, b, h => by
    cases b with
    | dic l b =>
      simp only [D.beq, Bool.and_eq_true, decide_eq_true_eq] at h
      rw [h.1, D.beqs_eq a b h.2]
    | _ => simp [D.beq] at h
  | .loc a, b, h => by cases b <;> first | (simp [D.beq] at h; done) | (simp [D.beq] at h; subst h; rfl)
  | .cls a, b, h => by cases b <;> first | (simp [D.beq] at h; done) | (simp [D.beq] at h; subst h; rfl)
  | .fn a, b, h => by cases b <;> first | (simp [D.beq] at h; done) | (simp [D.beq] at h; subst h; rfl)
theorem D.beqs_eq : ∀ (a b : List D), D.beqs a b = true → a = b
  | [], [], _ => rfl
  | [], _ :: _, h => by simp [D.beqs] at h
  | _ :: _, [], h => by simp [D.beqs] at h
  | x :: xs, y :: ys, h => by
    simp only [D.beqs, Bool.and_eq_true] at h
    rw [D.beq_eq x y h.1, D.beqs_eq xs ys h.2]
end
theorem Cell.beq_eq (a b : Cell) (h : Cell.beq a b = true) : a = b := by
  cases a <;> cases b <;> simp only [Cell.beq, Bool.and_eq_true, decide_eq_true_eq, Bool.false_eq_true] at h
  · rw [D.beqs_eq _ _ h]
  · rw [h.1, D.beqs_eq _ _ h.2]
  · rw [h.1.1, h.1.2, D.beqs_eq _ _ h.2]
mutual
theorem D.beq_refl : ∀ a : D, D.beq a a = true
  | .non => rfl
  | .bl a => by simp [D.beq]
  | .int a => by simp [D.beq]
  | .str a => by simp [D.beq]
  | .tup a => by simp only [D.beq]; exact D.beqs_refl a
  | .lst a => by simp only [D.beq]; exact D.beqs_refl a
  | .dic k a => by simp only [D.beq, decide_true, Bool.true_and]; exact D.beqs_refl a
  | .loc a => by simp [D.beq]
  | .cls a => by simp [D.beq]
  | .fn a => by simp [D.beq]
theorem D.beqs_refl : ∀ a : List D, D.beqs a a = true
  | [] => rfl
  | x :: xs => by simp only [D.beqs, D.beq_refl x, D.beqs_refl xs, Bool.and_true]
end
theorem Cell.beq_refl (c : Cell) : Cell.beq c c = true := by cases c <;> simp [Cell.beq, D.beqs_refl]
theorem okOld_app (n : Nat) : ∀ (st ext : Store), okOld n st (st ++ ext) = true
  | [], _ => rfl
  | c :: cs, ext => by
    show ((Cell.beq c c || Cell.lim n c) && okOld n cs (cs ++ ext)) = true
    rw [Cell.beq_refl, okOld_app n cs ext] <;> rfl
theorem okOld_self (n : Nat) (st : Store) : okOld n st st = true := by
  have h := okOld_app n st []
  rwa [List.append_nil] at h
theorem fin_self (st : Store) (d : D) (h : D.lim st.length d = true) : fin st d st = .ok d st := by
  have e : frzN st.length st 6 d = d := by show (if D.lim st.length d = true then d else _) = d; rw [if_pos h]
  unfold fin
  rw [e, okOld_self, h, List.take_length] <;> rfl
theorem fin_app (st ext : Store) (d d' : D) (e : frzN st.length (st ++ ext) 6 d = d') (h : D.lim st.length d' = true) : fin st d (st ++ ext) = .ok d' st := by
  unfold fin
  rw [e, okOld_app, h, List.take_left] <;> rfl
theorem finX_app (st ext : Store) (c : Nat) : finX st c (st ++ ext) = .exc c st := by
  unfold finX
  rw [okOld_app, List.take_left] <;> rfl
theorem finX_self (st : Store) (c : Nat) : finX st c st = .exc c st := by
  unfold finX
  rw [okOld_self, List.take_length] <;> rfl

/-! ### what a heap bears -/
/-- places: the live cells' addresses, by number; addresses of things that are being made, that no value names yet -/
structure Pl where
  lk : List Addr
  ex : List Addr
def Pl.out (ρ : Pl) (a : Addr) : Prop := a ∉ ρ.lk ∧ a ∉ ρ.ex
abbrev Pl.push (ρ : Pl) (p : Addr) : Pl := ⟨ρ.lk ++ [p], ρ.ex⟩
/-- the program's facts that a state leans on: the written part, where classes and defs stand, the tables of code objects -/
structure G where
  K : PySem.W.Frag
  ca : Nat → Addr
  fa : Nat → Addr
  T : List (Addr × Str)
/-- a tuple of the module's own, a list of it -/
def KTup (K : PySem.W.Frag) (a : Addr) (xs : List V) : Prop := ∃ (o : Obj) (its : Array Value) (n : Nat), K.lookup a = some o ∧ o.cls = .type "tuple" ∧ o.data = .seq its n ∧ its.size ≤ sizeLine ∧ Vals xs its.toList
def TupAt (g : G) (ρ : Pl) (H : Hp) (a : Addr) (xs : List V) : Prop := (ρ.out a ∧ Rd H a (.tup xs)) ∨ KTup g.K a xs
def LstAt (g : G) (ρ : Pl) (H : Hp) (a : Addr) (xs : List V) : Prop := ρ.out a ∧ Rd H a (.lst xs)
mutual
/-- v is the tree d: live cells at ρ -/
def Rp (g : G) (ρ : Pl) (H : Hp) : D → V → Prop
  | .non, v => v = .non
  | .bl b, v => v = .bl b
  | .int i, v => v = .int i
  | .str s, v => v = .str s
  | .tup ds, v => ∃ a vs, v = .ref a ∧ TupAt g ρ H a vs ∧ Rps g ρ H ds vs
  | .lst ds, v => ∃ a vs, v = .ref a ∧ LstAt g ρ H a vs ∧ Rps g ρ H ds vs
  | .dic ks ds, v => ∃ a kvs, v = .ref a ∧ ρ.out a ∧ Rd H a (.dK kvs) ∧ kvs.map (·.1) = ks ∧ Rps g ρ H ds (kvs.map (·.2))
  | .loc n, v => ∃ a, v = .ref a ∧ ρ.lk[n]? = some a
  | .cls c, v => v = .ref (g.ca c)
  | .fn f, v => v = .ref (g.fa f)
def Rps (g : G) (ρ : Pl) (H : Hp) : List D → List V → Prop
  | [], vs => vs = []
  | d :: ds, vs => ∃ v r, vs = v :: r ∧ Rp g ρ H d v ∧ Rps g ρ H ds r
end
/-- what stands at a live cell's address -/
def CellAt (g : G) (ρ : Pl) (H : Hp) (a : Addr) : Cell → Prop
  | .lst ds => ∃ vs, H a = some (.lst vs) ∧ Rps g ρ H ds vs
  | .dic ks ds => ∃ kvs, H a = some (.dK kvs) ∧ kvs.map (·.1) = ks ∧ Rps g ρ H ds (kvs.map (·.2))
  | .ins c fs ds => ∃ dx fvs, H a = some (.ins (g.ca c) dx fvs) ∧ fvs.map (·.1) = fs ∧ Rps g ρ H ds (fvs.map (·.2))
/-- something stands there that is no table -/
def Has (H : Hp) (a : Addr) : Prop := ∃ o, H a = some o ∧ ∀ ps, o ≠ HO.tbl ps
/-- the state: every cell stands at its own address -/
structure SR (g : G) (ρ : Pl) (st : Store) (H : Hp) : Prop where
  len : ρ.lk.length = st.length
  nd : ρ.lk.Nodup
  hid : ∀ a, a ∈ ρ.ex → a ∉ ρ.lk
  hidT : ∀ a, a ∈ ρ.ex → Has H a
  cell : ∀ (n : Nat) (c : Cell), st[n]? = some c → ∃ a, ρ.lk[n]? = some a ∧ CellAt g ρ H a c
  tabs : LamX.Tabs g.T H
/-- the slots -/
structure ER (g : G) (ρ : Pl) (H : Hp) (σ : Env) (σV : L2.St) : Prop where
  len : σ.length = σV.length
  at_ : ∀ (i : Nat) (d : D), σ[i]? = some (some d) → ∃ v, σV[i]? = some (some v) ∧ Rp g ρ H d v
/-- neither a table nor a locked thing -/
def plainO : HO → Bool
  | .tbl _ => false
  | .frz _ _ => false
  | _ => true
/-- what may have happened: new cells, live cells changed, all else kept -/
structure Le (ρ : Pl) (H : Hp) (ρ' : Pl) (H' : Hp) : Prop where
  pre : ∃ t, ρ'.lk = ρ.lk ++ t ∧ ∀ a ∈ t, ¬Has H a
  hid : ρ'.ex = ρ.ex
  keep : ∀ a u, Rd H a u → a ∉ ρ.lk → plainO u = true → Rd H' a u
  hidk : ∀ a, a ∈ ρ.ex → H' a = H a
  dom : ∀ a, Has H a → Has H' a
  fz : ∀ a o u, H a = some (.frz o u) → H' a = some (.frz o u)

variable {g : G} {ρ ρ' ρ'' : Pl} {H H' H'' : Hp}
theorem Has.rd {a : Addr} {u : HO} (h : Rd H a u) (q : plainO u = true) : Has H a := by
  rcases h with h | ⟨o, h⟩
  · exact ⟨u, h, fun ps e => by rw [e] at q; cases q⟩
  · exact ⟨_, h, fun ps e => nomatch e⟩
theorem Has.no {a : Addr} (hp : H a = none) : ¬Has H a := fun ⟨o, h, _⟩ => by
  rw [hp] at h
  cases h
theorem Has.upd {a p : Addr} {o : HO} (n : a ≠ p) (h : Has H a) : Has (L2.upd H p o) a := by
  obtain ⟨u, h1, h2⟩ := h
  exact ⟨u, by rw [upd_ne n]; exact h1, h2⟩
theorem Has.set {p : Addr} {o : HO} (n : ∀ ps, o ≠ HO.tbl ps) : Has (L2.upd H p o) p := ⟨o, upd_same, n⟩
/-- something new beside it -/
theorem Has.new {a p : Addr} {o : HO} (hp : H p = none) (h : Has H a) : Has (L2.upd H p o) a := h.upd fun e => Has.no hp (by rw [← e]; exact h)
theorem Has.ov {a p : Addr} {o : HO} (n : ∀ ps, o ≠ HO.tbl ps) (h : Has H a) : Has (L2.upd H p o) a := by
  by_cases e : a = p
  · rw [e]; exact Has.set n
  · exact h.upd e
theorem Le.refl (ρ : Pl) (H : Hp) : Le ρ H ρ H := ⟨⟨[], by simp, by simp⟩, rfl, fun _ _ h _ _ => h, fun _ _ => rfl, fun _ h => h, fun _ _ _ h => h⟩
theorem Le.trans (x : Le ρ H ρ' H') (y : Le ρ' H' ρ'' H'') : Le ρ H ρ'' H'' := by
  obtain ⟨t, e, f⟩ := x.pre
  obtain ⟨u, e', f'⟩ := y.pre
  refine ⟨⟨t ++ u, by rw [e', e, List.append_assoc], fun a ha => ?_⟩, y.hid.trans x.hid, fun a o h n q => ?_, fun a h => (y.hidk a (by rw [x.hid]; exact h)).trans (x.hidk a h), fun a h => y.dom a (x.dom a h), fun a o u h => y.fz a o u (x.fz a o u h)⟩
  · rcases List.mem_append.mp ha with z | z
    · exact f a z
    · exact fun h => f' a z (x.dom a h)
  · refine y.keep a o (x.keep a o h n q) (fun z => ?_) q
    rw [e] at z
    rcases List.mem_append.mp z with z | z
    · exact n z
    · exact f a z (Has.rd h q)
theorem Le.get (x : Le ρ H ρ' H') {n : Nat} {a : Addr} (h : ρ.lk[n]? = some a) : ρ'.lk[n]? = some a := by
  obtain ⟨t, e, _⟩ := x.pre
  rw [e, List.getElem?_append_left (List.getElem?_eq_some_iff.mp h).1]
  exact h
theorem Le.out (x : Le ρ H ρ' H') {a : Addr} (h : Has H a) (n : ρ.out a) : ρ'.out a := by
  obtain ⟨t, e, f⟩ := x.pre
  refine ⟨?_, by rw [x.hid]; exact n.2⟩
  rw [e]
  intro z
  rcases List.mem_append.mp z with z | z
  · exact n.1 z
  · exact f a z h
theorem Le.rd (x : Le ρ H ρ' H') {a : Addr} {u : HO} (n : ρ.out a) (q : plainO u = true) (h : Rd H a u) : ρ'.out a ∧ Rd H' a u := by
  exact ⟨x.out (Has.rd h q) n, x.keep a u h n.1 q⟩
/-- what a value leans on -/
structure Ke (ρ : Pl) (H : Hp) (ρ' : Pl) (H' : Hp) : Prop where
  get : ∀ (n : Nat) (a : Addr), ρ.lk[n]? = some a → ρ'.lk[n]? = some a
  rd : ∀ a u, ρ.out a → plainO u = true → Rd H a u → ρ'.out a ∧ Rd H' a u
theorem Le.ke (x : Le ρ H ρ' H') : Ke ρ H ρ' H' := ⟨fun _ _ h => x.get h, fun _ _ n q h => x.rd n q h⟩
mutual
theorem Rp.ke (x : Ke ρ H ρ' H') : ∀ (d : D) (v : V), Rp g ρ H d v → Rp g ρ' H' d v
  | .non, v, h => h
  | .bl b, v, h => h
  | .int i, v, h => h
  | .str s, v, h => h
  | .tup ds, v, h => by
    simp only [Rp] at h ⊢
    obtain ⟨a, vs, e, h1, h2⟩ := h
    exact ⟨a, vs, e, h1.imp (fun z => x.rd _ _ z.1 rfl z.2) id, Rps.ke x ds vs h2⟩
  | .lst ds, v, h => by
    simp only [Rp] at h ⊢
    obtain ⟨a, vs, e, h1, h2⟩ := h
    exact ⟨a, vs, e, x.rd _ _ h1.1 rfl h1.2, Rps.ke x ds vs h2⟩
  | .dic ks ds, v, h => by
    simp only [Rp] at h ⊢
    obtain ⟨a, kvs, e, n, h1, h2, h3⟩ := h
    obtain ⟨n', h1'⟩ := x.rd _ _ n rfl h1
    exact ⟨a, kvs, e, n', h1', h2, Rps.ke x ds _ h3⟩
  | .loc n, v, h => by
    simp only [Rp] at h ⊢
    obtain ⟨a, e, h⟩ := h
    exact ⟨a, e, x.get n a h⟩
  | .cls c, v, h => h
  | .fn f, v, h => h
theorem Rps.ke (x : Ke ρ H ρ' H') : ∀ (ds : List D) (vs : List V), Rps g ρ H ds vs → Rps g ρ' H' ds vs
  | [], vs, h => h
  | d :: ds, vs, h => by
    simp only [Rps] at h ⊢
    obtain ⟨v, r, e, h1, h2⟩ := h
    exact ⟨v, r, e, Rp.ke x d v h1, Rps.ke x ds r h2⟩
end
theorem Rp.mono (x : Le ρ H ρ' H') (d : D) (v : V) (h : Rp g ρ H d v) : Rp g ρ' H' d v := h.ke x.ke
theorem Rps.mono (x : Le ρ H ρ' H') (ds : List D) (vs : List V) (h : Rps g ρ H ds vs) : Rps g ρ' H' ds vs := h.ke x.ke
theorem ER.ke {σ : Env} {σV : L2.St} (x : Ke ρ H ρ' H') (e : ER g ρ H σ σV) : ER g ρ' H' σ σV := ⟨e.len, fun i d h => by
  obtain ⟨v, h1, h2⟩ := e.at_ i d h
  exact ⟨v, h1, h2.ke x⟩⟩
theorem ER.mono {σ : Env} {σV : L2.St} (x : Le ρ H ρ' H') (e : ER g ρ H σ σV) : ER g ρ' H' σ σV := ⟨e.len, fun i d h => by
  obtain ⟨v, h1, h2⟩ := e.at_ i d h
  exact ⟨v, h1, h2.mono x⟩⟩
theorem ER.set {σ : Env} {σV : L2.St} {d : D} {v : V} (e : ER g ρ H σ σV) (i : Nat) (r : Rp g ρ H d v) : ER g ρ H (σ.set i (some d)) (σV.set i (some v)) := by
  refine ⟨by rw [List.length_set, List.length_set, e.len], fun j d' h => ?_⟩
  by_cases hj : i = j
  · subst hj
    by_cases hl : i < σ.length
    · rw [List.getElem?_set_self hl] at h
      cases h
      exact ⟨v, by rw [List.getElem?_set_self (by rw [← e.len]; exact hl)], r⟩
    · rw [List.getElem?_eq_none (by rw [List.length_set]; omega)] at h
      cases h
  · rw [List.getElem?_set_ne hj] at h ⊢
    exact e.at_ j d' h
theorem CellAt.ke (x : Ke ρ H ρ' H') {a : Addr} (hk : H' a = H a) : ∀ {c : Cell}, CellAt g ρ H a c → CellAt g ρ' H' a c
  | .lst ds, ⟨vs, h1, h2⟩ => ⟨vs, by rw [hk]; exact h1, Rps.ke x _ _ h2⟩
  | .dic ks ds, ⟨kvs, h1, h2, h3⟩ => ⟨kvs, by rw [hk]; exact h1, h2, Rps.ke x _ _ h3⟩
  | .ins c fs ds, ⟨dx, fvs, h1, h2, h3⟩ => ⟨dx, fvs, by rw [hk]; exact h1, h2, Rps.ke x _ _ h3⟩
theorem CellAt.mono (x : Le ρ H ρ' H') {a : Addr} (hk : H' a = H a) {c : Cell} (h : CellAt g ρ H a c) : CellAt g ρ' H' a c := h.ke x.ke hk
theorem Rps.length : ∀ {ds : List D} {vs : List V}, Rps g ρ H ds vs → ds.length = vs.length
  | [], vs, h => by
    have e : vs = [] := h
    rw [e] <;> rfl
  | d :: ds, vs, h => by
    obtain ⟨v, r, e, _, h2⟩ := h
    rw [e, List.length_cons, List.length_cons, Rps.length h2]
theorem Rps.get : ∀ {ds : List D} {vs : List V} {i : Nat} {d : D}, Rps g ρ H ds vs → ds[i]? = some d → ∃ v, vs[i]? = some v ∧ Rp g ρ H d v
  | [], vs, i, d, h, e => by simp at e
  | x :: ds, vs, 0, d, h, e => by
    obtain ⟨v, r, e1, h1, h2⟩ := h
    simp at e
    subst e e1
    exact ⟨v, rfl, h1⟩
  | x :: ds, vs, i + 1, d, h, e => by
    obtain ⟨v, r, e1, h1, h2⟩ := h
    subst e1
    simp at e
    obtain ⟨u, q1, q2⟩ := Rps.get h2 e
    exact ⟨u, by simpa using q1, q2⟩
theorem Rps.getV : ∀ {ds : List D} {vs : List V} {i : Nat} {v : V}, Rps g ρ H ds vs → vs[i]? = some v → ∃ d, ds[i]? = some d ∧ Rp g ρ H d v
  | [], vs, i, v, h, e => by
    have e1 : vs = [] := h
    rw [e1] at e
    simp at e
  | x :: ds, vs, 0, v, h, e => by
    obtain ⟨v', r, e1, h1, h2⟩ := h
    subst e1
    simp at e
    subst e
    exact ⟨x, rfl, h1⟩
  | x :: ds, vs, i + 1, v, h, e => by
    obtain ⟨v', r, e1, h1, h2⟩ := h
    subst e1
    simp at e
    obtain ⟨u, q1, q2⟩ := Rps.getV h2 e
    exact ⟨u, by simpa using q1, q2⟩
theorem Rps.append : ∀ {ds es : List D} {vs ws : List V}, Rps g ρ H ds vs → Rps g ρ H es ws → Rps g ρ H (ds ++ es) (vs ++ ws)
  | [], es, vs, ws, h, k => by
    have e : vs = [] := h
    rw [e]
    exact k
  | d :: ds, es, vs, ws, h, k => by
    obtain ⟨v, r, e, h1, h2⟩ := h
    subst e
    exact ⟨v, r ++ ws, rfl, h1, Rps.append h2 k⟩
theorem Rps.one {d : D} {v : V} (h : Rp g ρ H d v) : Rps g ρ H [d] [v] := ⟨v, [], rfl, h, rfl⟩
theorem Rps.take : ∀ {ds : List D} {vs : List V} (n : Nat), Rps g ρ H ds vs → Rps g ρ H (ds.take n) (vs.take n)
  | _, _, 0, _ => rfl
  | [], vs, n + 1, h => by
    have e : vs = [] := h
    rw [e]
    exact rfl
  | d :: ds, vs, n + 1, h => by
    obtain ⟨v, r, e, h1, h2⟩ := h
    subst e
    exact ⟨v, r.take n, rfl, h1, Rps.take n h2⟩
theorem Rps.drop : ∀ {ds : List D} {vs : List V} (n : Nat), Rps g ρ H ds vs → Rps g ρ H (ds.drop n) (vs.drop n)
  | _, _, 0, h => h
  | [], vs, n + 1, h => by
    have e : vs = [] := h
    rw [e]
    exact rfl
  | d :: ds, vs, n + 1, h => by
    obtain ⟨v, r, e, h1, h2⟩ := h
    subst e
    exact Rps.drop n h2
theorem Rps.set {d : D} {v : V} (r : Rp g ρ H d v) : ∀ {ds : List D} {vs : List V} (i : Nat), Rps g ρ H ds vs → Rps g ρ H (ds.set i d) (vs.set i v)
  | [], vs, i, h => by
    have e : vs = [] := h
    rw [e]
    exact rfl
  | x :: ds, vs, 0, h => by
    obtain ⟨v', r', e, h1, h2⟩ := h
    subst e
    exact ⟨v, r', rfl, r, h2⟩
  | x :: ds, vs, i + 1, h => by
    obtain ⟨v', r', e, h1, h2⟩ := h
    subst e
    exact ⟨v', r'.set i v, rfl, h1, Rps.set r i h2⟩

/-! ### a new cell, a cell changed -/
theorem SR.live {st : Store} (s : SR g ρ st H) {p : Addr} (hp : p ∈ ρ.lk) : Has H p := by
  obtain ⟨n, hn⟩ := List.mem_iff_getElem?.mp hp
  obtain ⟨h1, _⟩ := List.getElem?_eq_some_iff.mp hn
  have h2 : n < st.length := by rw [← s.len]; exact h1
  obtain ⟨a, e, c⟩ := s.cell n st[n] (List.getElem?_eq_getElem h2)
  rw [hn] at e
  cases e
  cases hc : st[n] with
  | lst ds => rw [hc] at c; obtain ⟨vs, q, _⟩ := c; exact ⟨_, q, fun _ z => nomatch z⟩
  | dic ks ds => rw [hc] at c; obtain ⟨vs, q, _⟩ := c; exact ⟨_, q, fun _ z => nomatch z⟩
  | ins c' fs ds => rw [hc] at c; obtain ⟨dx, vs, q, _⟩ := c; exact ⟨_, q, fun _ z => nomatch z⟩
theorem SR.nofz {st : Store} (s : SR g ρ st H) {p : Addr} (hp : p ∈ ρ.lk) (q : Obj) (u : HO) : H p ≠ some (.frz q u) := fun e => by
  obtain ⟨n, hn⟩ := List.mem_iff_getElem?.mp hp
  obtain ⟨h1, _⟩ := List.getElem?_eq_some_iff.mp hn
  have h2 : n < st.length := by rw [← s.len]; exact h1
  obtain ⟨a, e1, c⟩ := s.cell n st[n] (List.getElem?_eq_getElem h2)
  rw [hn] at e1
  cases e1
  cases hc : st[n] with
  | lst ds => rw [hc] at c; obtain ⟨vs, q, _⟩ := c; rw [q] at e; cases e
  | dic ks ds => rw [hc] at c; obtain ⟨vs, q, _⟩ := c; rw [q] at e; cases e
  | ins c' fs ds => rw [hc] at c; obtain ⟨dx, vs, q, _⟩ := c; rw [q] at e; cases e
theorem SR.notin {st : Store} (s : SR g ρ st H) {p : Addr} (hp : H p = none) : p ∉ ρ.lk := fun z => Has.no hp (s.live z)
theorem SR.out {st : Store} (s : SR g ρ st H) {p : Addr} (hp : H p = none) : ρ.out p := ⟨s.notin hp, fun z => Has.no hp (s.hidT p z)⟩
theorem rd_ne {p : Addr} {o u : HO} {a : Addr} (n : a ≠ p) (h : Rd H a u) : Rd (upd H p o) a u := by
  unfold Rd
  rw [upd_ne n]
  exact h
theorem rd_new {p : Addr} {o u : HO} {a : Addr} (hp : H p = none) (h : Rd H a u) : Rd (upd H p o) a u := rd_ne (fun e => by rcases h with h | ⟨q, h⟩ <;> rw [e, hp] at h <;> cases h) h
theorem Le.new' {p : Addr} {o : HO} (hx : ∀ a, a ∈ ρ.ex → Has H a) (hp : H p = none) : Le ρ H (ρ.push p) (upd H p o) :=
  ⟨⟨[p], rfl, fun a ha => by rw [List.mem_singleton.mp ha]; exact Has.no hp⟩, rfl, fun a u h _ _ => rd_new hp h, fun a ha => upd_ne fun e => by rw [e] at ha; exact Has.no hp (hx p ha), fun a h => h.new hp, fun a o u h => (upd_ne fun e => by rw [e, hp] at h; cases h).trans h⟩
/-- something new that is no cell -/
theorem Le.lay' {p : Addr} {o : HO} (hx : ∀ a, a ∈ ρ.ex → Has H a) (hp : H p = none) : Le ρ H ρ (upd H p o) :=
  ⟨⟨[], by simp, by simp⟩, rfl, fun a u h _ _ => rd_new hp h, fun a ha => upd_ne fun e => by rw [e] at ha; exact Has.no hp (hx p ha), fun a h => h.new hp, fun a o u h => (upd_ne fun e => by rw [e, hp] at h; cases h).trans h⟩
theorem Le.write' {p : Addr} {o : HO} (ho : ∀ ps, o ≠ .tbl ps) (hx : ∀ a, a ∈ ρ.ex → a ∉ ρ.lk) (hp : p ∈ ρ.lk) (hf : ∀ q u, H p ≠ some (.frz q u)) : Le ρ H ρ (upd H p o) :=
  ⟨⟨[], by simp, by simp⟩, rfl, fun a u h n _ => rd_ne (fun e => n (by rw [e]; exact hp)) h, fun a ha => upd_ne fun e => hx a ha (by rw [e]; exact hp), fun a h => h.ov ho, fun a q u h => (upd_ne fun e => hf q u (by rw [← e]; exact h)).trans h⟩
theorem SR.leNew {st : Store} (s : SR g ρ st H) {p : Addr} {o : HO} (hp : H p = none) : Le ρ H (ρ.push p) (upd H p o) := Le.new' s.hidT hp
theorem SR.leLay {st : Store} (s : SR g ρ st H) {p : Addr} {o : HO} (hp : H p = none) : Le ρ H ρ (upd H p o) := Le.lay' s.hidT hp
theorem SR.leWrite {st : Store} (s : SR g ρ st H) {p : Addr} {o : HO} (ho : ∀ ps, o ≠ .tbl ps) (hp : p ∈ ρ.lk) : Le ρ H ρ (upd H p o) := Le.write' ho s.hid hp (s.nofz hp)
theorem Tabs_upd {T : List (Addr × Str)} {p : Addr} {o : HO} (h : LamX.Tabs T H) (hp : H p = none) : LamX.Tabs T (upd H p o) := h.ext fun b u e => by
  rw [upd_ne (ne_of_none e hp)]
  exact e
/-- the tables stand where a cell is changed -/
theorem Tabs_write {T : List (Addr × Str)} {p : Addr} {o u : HO} (h : LamX.Tabs T H) (hp : H p = some u) (n1 : ∀ ps, u ≠ .tbl ps) (n2 : ∀ c q, u ≠ LamX.CodeO c q) : LamX.Tabs T (upd H p o) := fun q hq => by
  obtain ⟨ps, h1, h2, h3⟩ := h q hq
  refine ⟨ps, ?_, h2, fun pos cv hc => ?_⟩
  · rw [upd_ne (fun z => by rw [z, hp] at h1; exact n1 ps (Option.some.inj h1))]
    exact h1
  · obtain ⟨c, e1, e2⟩ := h3 pos cv hc
    refine ⟨c, e1, ?_⟩
    rw [upd_ne (fun z => by rw [z, hp] at e2; exact n2 _ _ (Option.some.inj e2))]
    exact e2
theorem SR.lay {st : Store} (s : SR g ρ st H) {p : Addr} {o : HO} (hp : H p = none) : SR g ρ st (upd H p o) :=
  ⟨s.len, s.nd, s.hid, fun a h => (s.hidT a h).new hp, fun n c h => by
    obtain ⟨a, e, q⟩ := s.cell n c h
    refine ⟨a, e, q.mono (s.leLay hp) (upd_ne fun z => s.notin hp ?_)⟩
    rw [← z]
    exact List.mem_of_getElem? e, Tabs_upd s.tabs hp⟩
theorem SR.new {st : Store} (s : SR g ρ st H) {p : Addr} {o : HO} {c : Cell} (hp : H p = none) (hc : CellAt g (ρ.push p) (upd H p o) p c) : SR g (ρ.push p) (st ++ [c]) (upd H p o) := by
  refine ⟨by rw [List.length_append, List.length_append, s.len] <;> rfl, List.nodup_append.mpr ⟨s.nd, List.nodup_cons.mpr ⟨by simp, List.nodup_nil⟩, fun a ha b hb e => ?_⟩, fun a ha z => ?_, fun a ha => (s.hidT a ha).new hp, fun n c' h => ?_, Tabs_upd s.tabs hp⟩
  · rw [List.mem_singleton.mp hb] at e
    rw [e] at ha
    exact s.notin hp ha
  · rcases List.mem_append.mp z with z | z
    · exact s.hid a ha z
    · rw [List.mem_singleton.mp z] at ha
      exact Has.no hp (s.hidT p ha)
  · by_cases hn : n < st.length
    · rw [List.getElem?_append_left hn] at h
      obtain ⟨a, e, q⟩ := s.cell n c' h
      refine ⟨a, (s.leNew (o := o) hp).get e, q.mono (s.leNew hp) (upd_ne fun z => s.notin hp ?_)⟩
      rw [← z]
      exact List.mem_of_getElem? e
    · rw [List.getElem?_append_right (by omega)] at h
      have hn2 : n - st.length = 0 := by
        cases e : n - st.length with
        | zero => rfl
        | succ m => rw [e] at h; simp at h
      rw [hn2] at h
      have hc' : c = c' := by simpa using h
      subst hc'
      refine ⟨p, ?_, hc⟩
      rw [List.getElem?_append_right (by rw [s.len]; omega), s.len, hn2] <;> rfl
theorem SR.write {st : Store} (s : SR g ρ st H) {n : Nat} {p : Addr} {o u : HO} {c : Cell} (ho : ∀ ps, o ≠ .tbl ps) (hn : ρ.lk[n]? = some p) (hp : H p = some u) (n1 : ∀ ps, u ≠ .tbl ps) (n2 : ∀ c q, u ≠ LamX.CodeO c q)
    (hc : CellAt g ρ (upd H p o) p c) : SR g ρ (st.set n c) (upd H p o) := by
  have hl : n < st.length := by rw [← s.len]; exact (List.getElem?_eq_some_iff.mp hn).1
  have mp : p ∈ ρ.lk := List.mem_of_getElem? hn
  refine ⟨by rw [List.length_set, s.len], s.nd, s.hid, fun a h => (s.hidT a h).ov ho, fun m c' h => ?_, Tabs_write s.tabs hp n1 n2⟩
  by_cases e : n = m
  · subst e
    rw [List.getElem?_set_self hl] at h
    cases h
    exact ⟨p, hn, hc⟩
  · rw [List.getElem?_set_ne e] at h
    obtain ⟨a, q, k⟩ := s.cell m c' h
    refine ⟨a, q, k.mono (s.leWrite ho mp) (upd_ne fun z => e ?_)⟩
    rw [z] at q
    obtain ⟨h1, e1⟩ := List.getElem?_eq_some_iff.mp hn
    obtain ⟨h2, e2⟩ := List.getElem?_eq_some_iff.mp q
    exact (List.getElem_inj s.nd).mp (e1.trans e2.symm)
end Hw
/-! HwB: a call's end is sound; the judgements; names, constants, calls of the program's own defs; statements. -/
namespace Hw
open PySem PySem.Spec PyProof.Rows L2
variable {g : G} {ρ ρ' ρ'' : Pl} {H H' H'' : Hp}

/-! ### freezing -/
mutual
/-- as Rp, live cells looked up at lk, frozen things outside of ex -/
def Rq (g : G) (lk : List Addr) (ex : Pl) (H : Hp) : D → V → Prop
  | .non, v => v = .non
  | .bl b, v => v = .bl b
  | .int i, v => v = .int i
  | .str s, v => v = .str s
  | .tup ds, v => ∃ a vs, v = .ref a ∧ TupAt g ex H a vs ∧ Rqs g lk ex H ds vs
  | .lst ds, v => ∃ a vs, v = .ref a ∧ LstAt g ex H a vs ∧ Rqs g lk ex H ds vs
  | .dic ks ds, v => ∃ a kvs, v = .ref a ∧ ex.out a ∧ Rd H a (.dK kvs) ∧ kvs.map (·.1) = ks ∧ Rqs g lk ex H ds (kvs.map (·.2))
  | .loc n, v => ∃ a, v = .ref a ∧ lk[n]? = some a
  | .cls c, v => v = .ref (g.ca c)
  | .fn f, v => v = .ref (g.fa f)
def Rqs (g : G) (lk : List Addr) (ex : Pl) (H : Hp) : List D → List V → Prop
  | [], vs => vs = []
  | d :: ds, vs => ∃ v r, vs = v :: r ∧ Rq g lk ex H d v ∧ Rqs g lk ex H ds r
end
mutual
theorem Rp.q (hs : ∀ a, ρ'.out a → ρ.out a) : ∀ (d : D) (v : V), Rp g ρ' H d v → Rq g ρ'.lk ρ H d v
  | .non, v, h => h
  | .bl b, v, h => h
  | .int i, v, h => h
  | .str s, v, h => h
  | .tup ds, v, h => by
    simp only [Rp] at h; simp only [Rq]
    obtain ⟨a, vs, e, h1, h2⟩ := h
    exact ⟨a, vs, e, h1.imp (fun z => ⟨hs a z.1, z.2⟩) id, Rps.q hs ds vs h2⟩
  | .lst ds, v, h => by
    simp only [Rp] at h; simp only [Rq]
    obtain ⟨a, vs, e, h1, h2⟩ := h
    exact ⟨a, vs, e, ⟨hs a h1.1, h1.2⟩, Rps.q hs ds vs h2⟩
  | .dic ks ds, v, h => by
    simp only [Rp] at h; simp only [Rq]
    obtain ⟨a, kvs, e, n, h1, h2, h3⟩ := h
    exact ⟨a, kvs, e, hs a n, h1, h2, Rps.q hs ds _ h3⟩
  | .loc n, v, h => h
  | .cls c, v, h => h
  | .fn f, v, h => h
theorem Rps.q (hs : ∀ a, ρ'.out a → ρ.out a) : ∀ (ds : List D) (vs : List V), Rps g ρ' H ds vs → Rqs g ρ'.lk ρ H ds vs
  | [], vs, h => h
  | d :: ds, vs, h => by
    simp only [Rps] at h; simp only [Rqs]
    obtain ⟨v, r, e, h1, h2⟩ := h
    exact ⟨v, r, e, Rp.q hs d v h1, Rps.q hs ds r h2⟩
end
mutual
theorem Rq.p (hs : ∀ (k : Nat) (a : Addr), k < ρ.lk.length → ρ'.lk[k]? = some a → ρ.lk[k]? = some a) : ∀ (d : D) (v : V), D.lim ρ.lk.length d = true → Rq g ρ'.lk ρ H d v → Rp g ρ H d v
  | .non, v, _, h => h
  | .bl b, v, _, h => h
  | .int i, v, _, h => h
  | .str s, v, _, h => h
  | .tup ds, v, l, h => by
    simp only [Rq] at h; simp only [Rp]; simp only [D.lim] at l
    obtain ⟨a, vs, e, h1, h2⟩ := h
    exact ⟨a, vs, e, h1, Rqs.p hs ds vs l h2⟩
  | .lst ds, v, l, h => by
    simp only [Rq] at h; simp only [Rp]; simp only [D.lim] at l
    obtain ⟨a, vs, e, h1, h2⟩ := h
    exact ⟨a, vs, e, h1, Rqs.p hs ds vs l h2⟩
  | .dic ks ds, v, l, h => by
    simp only [Rq] at h; simp only [Rp]; simp only [D.lim] at l
    obtain ⟨a, kvs, e, n, h1, h2, h3⟩ := h
    exact ⟨a, kvs, e, n, h1, h2, Rqs.p hs ds _ l h3⟩
  | .loc n, v, l, h => by
    simp only [Rq] at h; simp only [Rp]; simp only [D.lim, decide_eq_true_eq] at l
    obtain ⟨a, e, h⟩ := h
    exact ⟨a, e, hs n a l h⟩
  | .cls c, v, _, h => h
  | .fn f, v, _, h => h
theorem Rqs.p (hs : ∀ (k : Nat) (a : Addr), k < ρ.lk.length → ρ'.lk[k]? = some a → ρ.lk[k]? = some a) : ∀ (ds : List D) (vs : List V), D.lims ρ.lk.length ds = true → Rqs g ρ'.lk ρ H ds vs → Rps g ρ H ds vs
  | [], vs, _, h => h
  | d :: ds, vs, l, h => by
    simp only [Rqs] at h; simp only [Rps]; simp only [D.lims, Bool.and_eq_true] at l
    obtain ⟨v, r, e, h1, h2⟩ := h
    exact ⟨v, r, e, Rq.p hs d v l.1 h1, Rqs.p hs ds r l.2 h2⟩
end
section
variable {st2 : Store} (s : SR g ρ' st2 H) (hn : ∀ (k : Nat) (a : Addr), ρ.lk.length ≤ k → ρ'.lk[k]? = some a → a ∉ ρ.lk) (hex : ∀ a, a ∈ ρ.ex → a ∉ ρ'.lk) (hsub : ∀ a, ρ'.out a → ρ.out a)
include s hn hex hsub
mutual
theorem Rq.frz : ∀ (d : D) (v : V), Rq g ρ'.lk ρ H d v → Rq g ρ'.lk ρ H (D.frz ρ.lk.length st2 d) v
  | .non, v, h => h
  | .bl b, v, h => h
  | .int i, v, h => h
  | .str s, v, h => h
  | .tup ds, v, h => by
    simp only [Rq, D.frz] at h ⊢
    obtain ⟨a, vs, e, h1, h2⟩ := h
    exact ⟨a, vs, e, h1, Rqs.frz ds vs h2⟩
  | .lst ds, v, h => by
    simp only [Rq, D.frz] at h ⊢
    obtain ⟨a, vs, e, h1, h2⟩ := h
    exact ⟨a, vs, e, h1, Rqs.frz ds vs h2⟩
  | .dic ks ds, v, h => by
    simp only [Rq, D.frz] at h ⊢
    obtain ⟨a, kvs, e, n, h1, h2, h3⟩ := h
    exact ⟨a, kvs, e, n, h1, h2, Rqs.frz ds _ h3⟩
  | .loc k, v, h => by
    simp only [D.frz]
    by_cases hk : k < ρ.lk.length
    · rw [if_pos hk]; exact h
    · rw [if_neg hk]
      simp only [Rq] at h
      obtain ⟨a, e, h⟩ := h
      have na : ρ.out a := ⟨hn k a (by omega) h, fun z => hex a z (List.mem_of_getElem? h)⟩
      cases hc : st2[k]? with
      | none => simp only [Rq]; exact ⟨a, e, h⟩
      | some c =>
        obtain ⟨a', e', q⟩ := s.cell k c hc
        rw [h] at e'
        cases e'
        cases c with
        | lst xs =>
          obtain ⟨vs, q1, q2⟩ := q
          simp only [Rq]
          exact ⟨a, vs, e, ⟨na, .inl q1⟩, Rps.q hsub xs vs q2⟩
        | dic ks xs =>
          obtain ⟨kvs, q1, q2, q3⟩ := q
          simp only [Rq]
          exact ⟨a, kvs, e, na, .inl q1, q2, Rps.q hsub xs _ q3⟩
        | ins c fs xs => simp only [Rq]; exact ⟨a, e, h⟩
  | .cls c, v, h => h
  | .fn f, v, h => h
theorem Rqs.frz : ∀ (ds : List D) (vs : List V), Rqs g ρ'.lk ρ H ds vs → Rqs g ρ'.lk ρ H (D.frzs ρ.lk.length st2 ds) vs
  | [], vs, h => h
  | d :: ds, vs, h => by
    simp only [Rqs, D.frzs] at h ⊢
    obtain ⟨v, r, e, h1, h2⟩ := h
    exact ⟨v, r, e, Rq.frz d v h1, Rqs.frz ds r h2⟩
end
theorem Rq.frzN : ∀ (m : Nat) (d : D) (v : V), Rq g ρ'.lk ρ H d v → Rq g ρ'.lk ρ H (frzN ρ.lk.length st2 m d) v
  | 0, d, v, h => h
  | m + 1, d, v, h => by
    show Rq g ρ'.lk ρ H (if D.lim ρ.lk.length d = true then d else Hw.frzN ρ.lk.length st2 m (D.frz ρ.lk.length st2 d)) v
    by_cases hl : D.lim ρ.lk.length d = true
    · rw [if_pos hl]; exact h
    · rw [if_neg hl]
      exact Rq.frzN m _ v (Rq.frz s hn hex hsub d v h)
end
mutual
theorem Rp.lim : ∀ (d : D) (v : V), Rp g ρ H d v → D.lim ρ.lk.length d = true
  | .non, v, h => rfl
  | .bl b, v, h => rfl
  | .int i, v, h => rfl
  | .str s, v, h => rfl
  | .tup ds, v, h => by
    simp only [Rp] at h; simp only [D.lim]
    obtain ⟨a, vs, e, h1, h2⟩ := h
    exact Rps.lim ds vs h2
  | .lst ds, v, h => by
    simp only [Rp] at h; simp only [D.lim]
    obtain ⟨a, vs, e, h1, h2⟩ := h
    exact Rps.lim ds vs h2
  | .dic ks ds, v, h => by
    simp only [Rp] at h; simp only [D.lim]
    obtain ⟨a, kvs, e, n, h1, h2, h3⟩ := h
    exact Rps.lim ds _ h3
  | .loc n, v, h => by
    simp only [Rp] at h; simp only [D.lim, decide_eq_true_eq]
    obtain ⟨a, e, h⟩ := h
    exact (List.getElem?_eq_some_iff.mp h).1
  | .cls c, v, h => rfl
  | .fn f, v, h => rfl
theorem Rps.lim : ∀ (ds : List D) (vs : List V), Rps g ρ H ds vs → D.lims ρ.lk.length ds = true
  | [], vs, h => rfl
  | d :: ds, vs, h => by
    simp only [Rps] at h; simp only [D.lims, Bool.and_eq_true]
    obtain ⟨v, r, e, h1, h2⟩ := h
    exact ⟨Rp.lim d v h1, Rps.lim ds r h2⟩
end
theorem CellAt.lim {a : Addr} {c : Cell} (h : CellAt g ρ H a c) : Cell.lim ρ.lk.length c = true := by
  cases c with
  | lst xs => obtain ⟨vs, _, q⟩ := h; exact Rps.lim xs vs q
  | dic ks xs => obtain ⟨vs, _, _, q⟩ := h; exact Rps.lim xs _ q
  | ins c fs xs => obtain ⟨_, vs, _, _, q⟩ := h; exact Rps.lim xs _ q
theorem okOld_at {n : Nat} : ∀ {st st2 : Store}, okOld n st st2 = true → ∀ (i : Nat) (c d : Cell), st[i]? = some c → st2[i]? = some d → c = d ∨ Cell.lim n d = true
  | [], _, _, i, c, d, h, _ => by simp at h
  | _ :: _, [], h, i, c, d, _, h2 => by simp at h2
  | x :: xs, y :: ys, h, i, c, d, h1, h2 => by
    simp only [okOld, Bool.and_eq_true, Bool.or_eq_true] at h
    cases i with
    | zero =>
      simp at h1 h2
      subst h1 h2
      exact h.1.imp (Cell.beq_eq _ _) id
    | succ i => exact okOld_at h.2 i c d (by simpa using h1) (by simpa using h2)
theorem okOld_len {n : Nat} : ∀ {st st2 : Store}, okOld n st st2 = true → st.length ≤ st2.length
  | [], _, _ => Nat.zero_le _
  | _ :: _, [], h => by simp [okOld] at h
  | x :: xs, y :: ys, h => by
    simp only [okOld, Bool.and_eq_true] at h
    exact Nat.succ_le_succ (okOld_len h.2)
theorem CellAt.cut (hs : ∀ (k : Nat) (a : Addr), k < ρ.lk.length → ρ'.lk[k]? = some a → ρ.lk[k]? = some a) (hsub : ∀ a, ρ'.out a → ρ.out a) {a : Addr} {c : Cell} (h : CellAt g ρ' H a c) (l : Cell.lim ρ.lk.length c = true) : CellAt g ρ H a c := by
  cases c with
  | lst xs => obtain ⟨vs, q, r⟩ := h; exact ⟨vs, q, Rqs.p hs xs vs l (Rps.q hsub xs vs r)⟩
  | dic ks xs => obtain ⟨vs, q, q2, r⟩ := h; exact ⟨vs, q, q2, Rqs.p hs xs _ l (Rps.q hsub xs _ r)⟩
  | ins c fs xs => obtain ⟨dx, vs, q, q2, r⟩ := h; exact ⟨dx, vs, q, q2, Rqs.p hs xs _ l (Rps.q hsub xs _ r)⟩
/-- what a call made is forgotten -/
theorem cut_ok {st st2 : Store} (s : SR g ρ st H) (le : Le ρ H ρ' H') (s2 : SR g ρ' st2 H') (ok : okOld st.length st st2 = true) :
    SR g ρ (st2.take st.length) H' ∧ Le ρ H ρ H' ∧ ∀ (m : Nat) (d : D) (v : V), Rp g ρ' H' d v → D.lim st.length (frzN st.length st2 m d) = true → Rp g ρ H' (frzN st.length st2 m d) v := by
  obtain ⟨t, e, f⟩ := id le.pre
  have hs : ∀ (k : Nat) (a : Addr), k < ρ.lk.length → ρ'.lk[k]? = some a → ρ.lk[k]? = some a := fun k a hk h => by
    rw [e, List.getElem?_append_left hk] at h
    exact h
  have hsub : ∀ a, ρ'.out a → ρ.out a := fun a h => ⟨fun z => h.1 (by rw [e]; exact List.mem_append_left _ z), by rw [← le.hid]; exact h.2⟩
  have hex : ∀ a, a ∈ ρ.ex → a ∉ ρ'.lk := fun a h => s2.hid a (by rw [le.hid]; exact h)
  have hn : ∀ (k : Nat) (a : Addr), ρ.lk.length ≤ k → ρ'.lk[k]? = some a → a ∉ ρ.lk := fun k a hk h z => by
    obtain ⟨j, hj⟩ := List.mem_iff_getElem?.mp z
    have hj2 := le.get hj
    obtain ⟨h1, e1⟩ := List.getElem?_eq_some_iff.mp h
    obtain ⟨h2, e2⟩ := List.getElem?_eq_some_iff.mp hj2
    have := (List.getElem_inj s2.nd).mp (e1.trans e2.symm)
    have := (List.getElem?_eq_some_iff.mp hj).1
    omega
  refine ⟨⟨?_, s.nd, s.hid, fun a h => le.dom a (s.hidT a h), fun n c h => ?_, s2.tabs⟩, ⟨⟨[], by simp, by simp⟩, rfl, le.keep, le.hidk, le.dom, le.fz⟩, fun m d v r l => ?_⟩
  · rw [List.length_take, s.len]
    have := okOld_len ok
    omega
  · have hl : n < st.length := by
      have := (List.getElem?_eq_some_iff.mp h).1
      rw [List.length_take] at this
      omega
    rw [List.getElem?_take_of_lt hl] at h
    obtain ⟨a, ea, q⟩ := s2.cell n c h
    obtain ⟨a0, ea0, q0⟩ := s.cell n st[n] (List.getElem?_eq_getElem hl)
    have : a = a0 := by
      have := le.get ea0
      rw [ea] at this
      exact Option.some.inj this
    subst this
    refine ⟨a, ea0, CellAt.cut hs hsub q ?_⟩
    rcases okOld_at ok n _ c (List.getElem?_eq_getElem hl) h with z | z
    · rw [← z]
      exact q0.lim
    · rw [s.len]
      exact z
  · rw [← s.len] at l ⊢
    exact Rq.p hs _ v l (Rq.frzN s2 hn hex hsub m d v (Rp.q hsub d v r))

/-! ### judgements -/
/-- the wish of an expression's end -/
def Ok1 (g : G) (ρ : Pl) (H : Hp) (E : XK) (Q : VK) : R D → Prop
  | .ok d st' => ∀ (v : V) (H' : Hp) (ρ' : Pl), Le ρ H ρ' H' → SR g ρ' st' H' → Rp g ρ' H' d v → Q v H'
  | .exc c st' => ∀ (H' : Hp) (ρ' : Pl), Le ρ H ρ' H' → SR g ρ' st' H' → E (.ref (g.ca c)) none H'
  | .stk => False
def OkA (g : G) (ρ : Pl) (H : Hp) (E : XK) (Q : List V → Hp → Prop) : R (List D) → Prop
  | .ok ds st' => ∀ (vs : List V) (H' : Hp) (ρ' : Pl), Le ρ H ρ' H' → SR g ρ' st' H' → Rps g ρ' H' ds vs → Q vs H'
  | .exc c st' => ∀ (H' : Hp) (ρ' : Pl), Le ρ H ρ' H' → SR g ρ' st' H' → E (.ref (g.ca c)) none H'
  | .stk => False
def OkT (g : G) (ρ : Pl) (H : Hp) (E : XK) (Q : Bool → Hp → Prop) : R Bool → Prop
  | .ok b st' => ∀ (H' : Hp) (ρ' : Pl), Le ρ H ρ' H' → SR g ρ' st' H' → Q b H'
  | .exc c st' => ∀ (H' : Hp) (ρ' : Pl), Le ρ H ρ' H' → SR g ρ' st' H' → E (.ref (g.ca c)) none H'
  | .stk => False
def OkS (g : G) (ρ : Pl) (H : Hp) (E : XK) (Z : Ends) : F → Prop
  | .nx σ' st' => ∀ (σV : L2.St) (H' : Hp) (ρ' : Pl), Le ρ H ρ' H' → SR g ρ' st' H' → ER g ρ' H' σ' σV → Z.nx σV H'
  | .rt d st' => ∀ (v : V) (H' : Hp) (ρ' : Pl), Le ρ H ρ' H' → SR g ρ' st' H' → Rp g ρ' H' d v → Z.rt v H'
  | .bk σ' st' => ∀ (σV : L2.St) (H' : Hp) (ρ' : Pl), Le ρ H ρ' H' → SR g ρ' st' H' → ER g ρ' H' σ' σV → Z.bk σV H'
  | .ct σ' st' => ∀ (σV : L2.St) (H' : Hp) (ρ' : Pl), Le ρ H ρ' H' → SR g ρ' st' H' → ER g ρ' H' σ' σV → Z.ct σV H'
  | .exc c st' => ∀ (H' : Hp) (ρ' : Pl), Le ρ H ρ' H' → SR g ρ' st' H' → E (.ref (g.ca c)) none H'
  | .stk => False
theorem Ok1.mono {E : XK} {Q : VK} (le : Le ρ H ρ' H') : ∀ {r : R D}, Ok1 g ρ H E Q r → Ok1 g ρ' H' E Q r
  | .ok _ _, h => fun v H2 ρ2 l s r => h v H2 ρ2 (le.trans l) s r
  | .exc _ _, h => fun H2 ρ2 l s => h H2 ρ2 (le.trans l) s
  | .stk, h => h
theorem OkA.mono {E : XK} {Q : List V → Hp → Prop} (le : Le ρ H ρ' H') : ∀ {r : R (List D)}, OkA g ρ H E Q r → OkA g ρ' H' E Q r
  | .ok _ _, h => fun v H2 ρ2 l s r => h v H2 ρ2 (le.trans l) s r
  | .exc _ _, h => fun H2 ρ2 l s => h H2 ρ2 (le.trans l) s
  | .stk, h => h
theorem OkT.mono {E : XK} {Q : Bool → Hp → Prop} (le : Le ρ H ρ' H') : ∀ {r : R Bool}, OkT g ρ H E Q r → OkT g ρ' H' E Q r
  | .ok _ _, h => fun H2 ρ2 l s => h H2 ρ2 (le.trans l) s
  | .exc _ _, h => fun H2 ρ2 l s => h H2 ρ2 (le.trans l) s
  | .stk, h => h
theorem OkS.mono {E : XK} {Z : Ends} (le : Le ρ H ρ' H') : ∀ {r : F}, OkS g ρ H E Z r → OkS g ρ' H' E Z r
  | .nx _ _, h => fun v H2 ρ2 l s r => h v H2 ρ2 (le.trans l) s r
  | .rt _ _, h => fun v H2 ρ2 l s r => h v H2 ρ2 (le.trans l) s r
  | .bk _ _, h => fun v H2 ρ2 l s r => h v H2 ρ2 (le.trans l) s r
  | .ct _ _, h => fun v H2 ρ2 l s r => h v H2 ρ2 (le.trans l) s r
  | .exc _ _, h => fun H2 ρ2 l s => h H2 ρ2 (le.trans l) s
  | .stk, h => h
/-- the readings that ask the very thing -/
def mxE (X : Cx) (e : Expr) : TE := fun σ H Q => ∀ pins s, Inv X pins σ H s → wpAny (model X.prog X.w) X.A (eval e X.env) (EP X pins σ Q) X.xe s
def mxT (X : Cx) (e : Expr) : TT := fun σ H Q => ∀ pins s, Inv X pins σ H s → wpAny (model X.prog X.w) X.A (isTrue e X.env (eval e X.env)) (TP X pins σ Q) X.xe s
def mxA (X : Cx) (es : List Expr) : TA := fun σ H Q => ∀ pos pins s, Inv X pins σ H s → wpAny (model X.prog X.w) X.A (spliced (backTo pos (starEach es X.env))) (AP X pins σ Q) X.xe s
def mxS (X : Cx) (st : Stmt) : TS := fun Z σ H => ∀ pins s, Inv X pins σ H s → wpAny (model X.prog X.w) X.A (exec st X.env) (SP X pins Z) X.xe s
def mxB (X : Cx) (sts : List Stmt) : TS := fun Z σ H => ∀ pins s, Inv X pins σ H s → wpAny (model X.prog X.w) X.A (execs sts X.env) (SP X pins Z) X.xe s
theorem pe_mx {X : Cx} {e : Expr} : PE X e (mxE X e) := ⟨fun pins s σ H Q I h => h pins s I⟩
theorem pt_mx {X : Cx} {e : Expr} : PT X e (mxT X e) := ⟨fun pins s σ H Q I h => h pins s I⟩
theorem pa_mx {X : Cx} {es : List Expr} : PA X es (mxA X es) := ⟨fun pos pins s σ H Q I h => h pos pins s I⟩
theorem ps_mx {X : Cx} {st : Stmt} : PS X st (mxS X st) := ⟨fun pins s σ H Z I h => h pins s I⟩
theorem pss_mx {X : Cx} {sts : List Stmt} : PSs X sts (mxB X sts) := ⟨fun pins s σ H Z I h => h pins s I⟩
theorem mx_of {X : Cx} {e : Expr} {t : TE} {σ : L2.St} {H : Hp} {Q : VK} (p : PE X e t) (h : t σ H Q) : mxE X e σ H Q := fun pins s I => p.run pins s σ H Q I h
theorem mt_of {X : Cx} {e : Expr} {t : TT} {σ : L2.St} {H : Hp} {Q : Bool → Hp → Prop} (p : PT X e t) (h : t σ H Q) : mxT X e σ H Q := fun pins s I => p.run pins s σ H Q I h
theorem ma_of {X : Cx} {es : List Expr} {t : TA} {σ : L2.St} {H : Hp} {Q : List V → Hp → Prop} (p : PA X es t) (h : t σ H Q) : mxA X es σ H Q := fun pos pins s I => p.run pos pins s σ H Q I h
theorem ms_of {X : Cx} {st : Stmt} {t : TS} {σ : L2.St} {H : Hp} {Z : Ends} (p : PS X st t) (h : t Z σ H) : mxS X st Z σ H := fun pins s I => p.run pins s σ H Z I h
theorem mb_of {X : Cx} {sts : List Stmt} {t : TS} {σ : L2.St} {H : Hp} {Z : Ends} (p : PSs X sts t) (h : t Z σ H) : mxB X sts Z σ H := fun pins s I => p.run pins s σ H Z I h
/-- what is raised reaches E -/
abbrev Tk (X : Cx) (E : XK) : Prop := L2N.Takes X (fun cls d _ H => E cls d H)
theorem tk0 {X : Cx} : Tk X E0 := fun _ _ x => by
  obtain ⟨_, _, _, _, _, _, _, _, _, _, _, _, _, _, _, _, z⟩ := x
  exact z.elim
structure SE (g : G) (E : XK) (X : Cx) (e : Expr) (f : FE) : Prop where
  run : X.K = g.K → Tk X E → ∀ (σ : Env) (st : Store) (σV : L2.St) (H : Hp) (ρ : Pl) (Q : VK), ER g ρ H σ σV → SR g ρ st H → Ok1 g ρ H E Q (f σ st) → mxE X e σV H Q
instance {g : G} {E : XK} {X : Cx} {e : Expr} {f : FE} : CoeFun (SE g E X e f) (fun _ => X.K = g.K → Tk X E → ∀ (σ : Env) (st : Store) (σV : L2.St) (H : Hp) (ρ : Pl) (Q : VK), ER g ρ H σ σV → SR g ρ st H → Ok1 g ρ H E Q (f σ st) → mxE X e σV H Q) := ⟨SE.run⟩
structure ST (g : G) (E : XK) (X : Cx) (e : Expr) (f : FT) : Prop where
  run : X.K = g.K → Tk X E → ∀ (σ : Env) (st : Store) (σV : L2.St) (H : Hp) (ρ : Pl) (Q : Bool → Hp → Prop), ER g ρ H σ σV → SR g ρ st H → OkT g ρ H E Q (f σ st) → mxT X e σV H Q
instance {g : G} {E : XK} {X : Cx} {e : Expr} {f : FT} : CoeFun (ST g E X e f) (fun _ => X.K = g.K → Tk X E → ∀ (σ : Env) (st : Store) (σV : L2.St) (H : Hp) (ρ : Pl) (Q : Bool → Hp → Prop), ER g ρ H σ σV → SR g ρ st H → OkT g ρ H E Q (f σ st) → mxT X e σV H Q) := ⟨ST.run⟩
structure SA (g : G) (E : XK) (X : Cx) (es : List Expr) (f : FA) : Prop where
  run : X.K = g.K → Tk X E → ∀ (σ : Env) (st : Store) (σV : L2.St) (H : Hp) (ρ : Pl) (Q : List V → Hp → Prop), ER g ρ H σ σV → SR g ρ st H → OkA g ρ H E Q (f σ st) → mxA X es σV H Q
instance {g : G} {E : XK} {X : Cx} {es : List Expr} {f : FA} : CoeFun (SA g E X es f) (fun _ => X.K = g.K → Tk X E → ∀ (σ : Env) (st : Store) (σV : L2.St) (H : Hp) (ρ : Pl) (Q : List V → Hp → Prop), ER g ρ H σ σV → SR g ρ st H → OkA g ρ H E Q (f σ st) → mxA X es σV H Q) := ⟨SA.run⟩
structure SS (g : G) (E : XK) (X : Cx) (s : Stmt) (f : FS) : Prop where
  run : X.K = g.K → Tk X E → ∀ (σ : Env) (st : Store) (σV : L2.St) (H : Hp) (ρ : Pl) (Z : Ends), ER g ρ H σ σV → SR g ρ st H → OkS g ρ H E Z (f σ st) → mxS X s Z σV H
instance {g : G} {E : XK} {X : Cx} {s : Stmt} {f : FS} : CoeFun (SS g E X s f) (fun _ => X.K = g.K → Tk X E → ∀ (σ : Env) (st : Store) (σV : L2.St) (H : Hp) (ρ : Pl) (Z : Ends), ER g ρ H σ σV → SR g ρ st H → OkS g ρ H E Z (f σ st) → mxS X s Z σV H) := ⟨SS.run⟩
structure SB (g : G) (E : XK) (X : Cx) (s : List Stmt) (f : FS) : Prop where
  run : X.K = g.K → Tk X E → ∀ (σ : Env) (st : Store) (σV : L2.St) (H : Hp) (ρ : Pl) (Z : Ends), ER g ρ H σ σV → SR g ρ st H → OkS g ρ H E Z (f σ st) → mxB X s Z σV H
  
instance {g : G} {E : XK} {X : Cx} {s : List Stmt} {f : FS} : CoeFun (SB g E X s f) (fun _ => X.K = g.K → Tk X E → ∀ (σ : Env) (st : Store) (σV : L2.St) (H : Hp) (ρ : Pl) (Z : Ends), ER g ρ H σ σV → SR g ρ st H → OkS g ρ H E Z (f σ st) → mxB X s Z σV H
) := ⟨SB.run⟩
/-! ### names, constants -/
variable {E : XK} {X : Cx}
def fVar (i : Nat) : FE := fun σ st => match σ[i]? with
  | some (some d) => .ok d st
  | _ => .stk
def fC (d : D) : FE := fun _ st => .ok d st
theorem se_var {i : Nat} {e : Expr} (p : PE X e (tVar i)) : SE g E X e (fVar i) := .mk fun hK tk σ st σV H ρ Q er sr h => by
  unfold fVar at h
  cases e1 : σ[i]? with
  | none => rw [e1] at h; exact h.elim
  | some o =>
    cases o with
    | none => rw [e1] at h; exact h.elim
    | some d =>
      rw [e1] at h
      obtain ⟨v, q1, q2⟩ := er.at_ i d e1
      exact mx_of p ⟨v, q1, h v H ρ (Le.refl _ _) sr q2⟩
theorem se_c {d : D} {v : V} {e : Expr} (p : PE X e (tC v)) (r : ∀ ρ H, Rp g ρ H d v) : SE g E X e (fC d) := .mk fun hK tk σ st σV H ρ Q er sr h =>
  mx_of p (h v H ρ (Le.refl _ _) sr (r ρ H))
/-! ### two in a row -/
theorem Ok1.then {E : XK} {Q : VK} {r : R D} {Q' : VK} (h : Ok1 g ρ H E Q r) (f : ∀ d st', r = .ok d st' → ∀ (v : V) (H' : Hp) (ρ' : Pl), Le ρ H ρ' H' → SR g ρ' st' H' → Rp g ρ' H' d v → Q v H' → Q' v H') : Ok1 g ρ H E Q' r := by
  cases r with
  | ok d st' => exact fun v H' ρ' l s q => f d st' rfl v H' ρ' l s q (h v H' ρ' l s q)
  | exc c st' => exact h
  | stk => exact h
/-- the first part, then what the rest asks -/
theorem Ok1.bind {E : XK} {r : R D} {k : D → Store → R D} {Q : VK} {Q' : VK} (h : Ok1 g ρ H E Q (r.bind k)) (f : ∀ d st' (v : V) (H' : Hp) (ρ' : Pl), Le ρ H ρ' H' → SR g ρ' st' H' → Rp g ρ' H' d v → Ok1 g ρ' H' E Q (k d st') → Q' v H') : Ok1 g ρ H E Q' r := by
  cases r with
  | ok d st' => exact fun v H' ρ' l s q => f d st' v H' ρ' l s q (Ok1.mono l h)
  | exc c st' => exact h
  | stk => exact h
theorem Ok1.bindA {E : XK} {r : R (List D)} {k : List D → Store → R D} {Q : VK} {Q' : List V → Hp → Prop} (h : Ok1 g ρ H E Q (r.bind k)) (f : ∀ d st' (v : List V) (H' : Hp) (ρ' : Pl), Le ρ H ρ' H' → SR g ρ' st' H' → Rps g ρ' H' d v → Ok1 g ρ' H' E Q (k d st') → Q' v H') : OkA g ρ H E Q' r := by
  cases r with
  | ok d st' => exact fun v H' ρ' l s q => f d st' v H' ρ' l s q (Ok1.mono l h)
  | exc c st' => exact h
  | stk => exact h
theorem Ok1.bindT {E : XK} {r : R Bool} {k : Bool → Store → R D} {Q : VK} {Q' : Bool → Hp → Prop} (h : Ok1 g ρ H E Q (r.bind k)) (f : ∀ d st' (H' : Hp) (ρ' : Pl), Le ρ H ρ' H' → SR g ρ' st' H' → Ok1 g ρ' H' E Q (k d st') → Q' d H') : OkT g ρ H E Q' r := by
  cases r with
  | ok d st' => exact fun H' ρ' l s => f d st' H' ρ' l s (Ok1.mono l h)
  | exc c st' => exact h
  | stk => exact h
theorem OkT.bind {E : XK} {r : R D} {k : D → Store → R Bool} {Q : Bool → Hp → Prop} {Q' : VK} (h : OkT g ρ H E Q (r.bind k)) (f : ∀ d st' (v : V) (H' : Hp) (ρ' : Pl), Le ρ H ρ' H' → SR g ρ' st' H' → Rp g ρ' H' d v → OkT g ρ' H' E Q (k d st') → Q' v H') : Ok1 g ρ H E Q' r := by
  cases r with
  | ok d st' => exact fun v H' ρ' l s q => f d st' v H' ρ' l s q (OkT.mono l h)
  | exc c st' => exact h
  | stk => exact h
theorem OkT.bind' {E : XK} {r : R D} {k : D → Store → R Bool} {Q : Bool → Hp → Prop} {Q' : VK} (h : OkT g ρ H E Q (r.bind k)) (f : ∀ d st' (v : V) (H' : Hp) (ρ' : Pl), Le ρ H ρ' H' → SR g ρ' st' H' → Rp g ρ' H' d v → OkT g ρ' H' E Q (k d st') → Q' v H') : Ok1 g ρ H E Q' r := OkT.bind h f
theorem OkT.bindT {E : XK} {r : R Bool} {k : Bool → Store → R Bool} {Q : Bool → Hp → Prop} {Q' : Bool → Hp → Prop} (h : OkT g ρ H E Q (r.bind k)) (f : ∀ d st' (H' : Hp) (ρ' : Pl), Le ρ H ρ' H' → SR g ρ' st' H' → OkT g ρ' H' E Q (k d st') → Q' d H') : OkT g ρ H E Q' r := by
  cases r with
  | ok d st' => exact fun H' ρ' l s => f d st' H' ρ' l s (OkT.mono l h)
  | exc c st' => exact h
  | stk => exact h
theorem OkA.bind {E : XK} {r : R D} {k : D → Store → R (List D)} {Q : List V → Hp → Prop} {Q' : VK} (h : OkA g ρ H E Q (r.bind k)) (f : ∀ d st' (v : V) (H' : Hp) (ρ' : Pl), Le ρ H ρ' H' → SR g ρ' st' H' → Rp g ρ' H' d v → OkA g ρ' H' E Q (k d st') → Q' v H') : Ok1 g ρ H E Q' r := by
  cases r with
  | ok d st' => exact fun v H' ρ' l s q => f d st' v H' ρ' l s q (OkA.mono l h)
  | exc c st' => exact h
  | stk => exact h
theorem OkA.bindA {E : XK} {r : R (List D)} {k : List D → Store → R (List D)} {Q : List V → Hp → Prop} {Q' : List V → Hp → Prop} (h : OkA g ρ H E Q (r.bind k)) (f : ∀ d st' (v : List V) (H' : Hp) (ρ' : Pl), Le ρ H ρ' H' → SR g ρ' st' H' → Rps g ρ' H' d v → OkA g ρ' H' E Q (k d st') → Q' v H') : OkA g ρ H E Q' r := by
  cases r with
  | ok d st' => exact fun v H' ρ' l s q => f d st' v H' ρ' l s q (OkA.mono l h)
  | exc c st' => exact h
  | stk => exact h
theorem OkS.thn {E : XK} {r : R D} {k : D → Store → F} {Z : Ends} {Q' : VK} (h : OkS g ρ H E Z (r.thn k)) (f : ∀ d st' (v : V) (H' : Hp) (ρ' : Pl), Le ρ H ρ' H' → SR g ρ' st' H' → Rp g ρ' H' d v → OkS g ρ' H' E Z (k d st') → Q' v H') : Ok1 g ρ H E Q' r := by
  cases r with
  | ok d st' => exact fun v H' ρ' l s q => f d st' v H' ρ' l s q (OkS.mono l h)
  | exc c st' => exact h
  | stk => exact h
theorem OkS.thnT {E : XK} {r : R Bool} {k : Bool → Store → F} {Z : Ends} {Q' : Bool → Hp → Prop} (h : OkS g ρ H E Z (r.thn k)) (f : ∀ d st' (H' : Hp) (ρ' : Pl), Le ρ H ρ' H' → SR g ρ' st' H' → OkS g ρ' H' E Z (k d st') → Q' d H') : OkT g ρ H E Q' r := by
  cases r with
  | ok d st' => exact fun H' ρ' l s => f d st' H' ρ' l s (OkS.mono l h)
  | exc c st' => exact h
  | stk => exact h
theorem OkS.thnA {E : XK} {r : R (List D)} {k : List D → Store → F} {Z : Ends} {Q' : List V → Hp → Prop} (h : OkS g ρ H E Z (r.thn k)) (f : ∀ d st' (v : List V) (H' : Hp) (ρ' : Pl), Le ρ H ρ' H' → SR g ρ' st' H' → Rps g ρ' H' d v → OkS g ρ' H' E Z (k d st') → Q' v H') : OkA g ρ H E Q' r := by
  cases r with
  | ok d st' => exact fun v H' ρ' l s q => f d st' v H' ρ' l s q (OkS.mono l h)
  | exc c st' => exact h
  | stk => exact h

/-! ### arguments -/
def fNil : FA := fun _ st => .ok [] st
def fCons (f : FE) (r : FA) : FA := fun σ st => (f σ st).bind fun d st1 => (r σ st1).bind fun ds st2 => .ok (d :: ds) st2
theorem sa_nil : SA g E X [] fNil := .mk fun hK tk σ st σV H ρ Q er sr h => ma_of pa_nil (h [] H ρ (Le.refl _ _) sr rfl)
theorem sa_cons {e : Expr} {es : List Expr} {f : FE} {r : FA} (he : SE g E X e f) (hr : SA g E X es r) (hs : starEach (e :: es) X.env = (false, eval e X.env) :: starEach es X.env := by rfl) : SA g E X (e :: es) (fCons f r) := .mk fun hK tk σ st σV H ρ Q er sr h =>
  ma_of (pa_cons pe_mx pa_mx hs) (he hK tk σ st σV H ρ _ er sr (OkA.bind h fun d st1 v H1 ρ1 l1 s1 r1 h1 =>
    hr hK tk σ st1 σV H1 ρ1 _ (er.mono l1) s1 (OkA.bindA h1 fun ds st2 vs H2 ρ2 l2 s2 r2 h2 => h2 (v :: vs) H2 ρ2 (Le.refl _ _) s2 ⟨v, vs, rfl, r1.mono l2, r2⟩)))

/-! ### tuples, lists -/
def small (n : Nat) : Bool := decide (n ≤ 100000)
theorem small_le {n : Nat} (h : small n = true) : n ≤ sizeLine := Nat.le_trans (of_decide_eq_true h) (by decide)
theorem small_lt {n : Nat} (h : small n = true) : n < sizeLine := Nat.lt_of_le_of_lt (of_decide_eq_true h) (by decide)
def fTup (fa : FA) : FE := fun σ st => (fa σ st).bind fun ds st1 => if small ds.length then .ok (.tup ds) st1 else .stk
/-- a list that nobody changes -/
def fLst (fa : FA) : FE := fun σ st => (fa σ st).bind fun ds st1 => if small ds.length then .ok (.lst ds) st1 else .stk
/-- a list that lives -/
def fLstM (fa : FA) : FE := fun σ st => (fa σ st).bind fun ds st1 => if small ds.length then .ok (.loc st1.length) (st1 ++ [.lst ds]) else .stk
theorem Rp.of_tup {st : Store} (sr : SR g ρ st H) {ds : List D} {vs : List V} {p : Addr} (hp : H p = none) (r : Rps g ρ H ds vs) : Rp g ρ (upd H p (.tup vs)) (.tup ds) (.ref p) :=
  ⟨p, vs, rfl, .inl ⟨sr.out hp, .inl upd_same⟩, r.mono (sr.leLay hp)⟩
theorem Rp.of_lst {st : Store} (sr : SR g ρ st H) {ds : List D} {vs : List V} {p : Addr} (hp : H p = none) (r : Rps g ρ H ds vs) : Rp g ρ (upd H p (.lst vs)) (.lst ds) (.ref p) :=
  ⟨p, vs, rfl, ⟨sr.out hp, .inl upd_same⟩, r.mono (sr.leLay hp)⟩
theorem SR.newLst {st : Store} (sr : SR g ρ st H) {ds : List D} {vs : List V} {p : Addr} (hp : H p = none) (r : Rps g ρ H ds vs) : SR g (ρ.push p) (st ++ [.lst ds]) (upd H p (.lst vs)) :=
  sr.new hp ⟨vs, upd_same, r.mono (sr.leNew hp)⟩
theorem Rp.of_loc {st : Store} (sr : SR g ρ st H) {p : Addr} : Rp g (ρ.push p) H' (.loc st.length) (.ref p) := by
  refine ⟨p, rfl, ?_⟩
  rw [← sr.len, List.getElem?_append_right (Nat.le_refl _), Nat.sub_self] <;> rfl
theorem se_tup {es : List Expr} {f : FA} {x1 pos} (ha : SA g E X es f) : SE g E X (.Tuple es x1 pos) (fTup f) := .mk fun hK tk σ st σV H ρ Q er sr h =>
  mx_of (pe_tup pa_mx) (ha hK tk σ st σV H ρ _ er sr (Ok1.bindA h fun ds st1 vs H1 ρ1 l1 s1 r1 h1 => by
    by_cases hs : small ds.length = true
    · rw [if_pos hs] at h1
      refine ⟨by rw [← r1.length]; exact small_le hs, fun p hp => h1 _ _ ρ1 (s1.leLay hp) (s1.lay hp) (Rp.of_tup s1 hp r1)⟩
    · rw [if_neg hs] at h1
      exact h1.elim))
theorem se_lst {es : List Expr} {f : FA} {pos} (ha : SA g E X es f) : SE g E X (.List es pos) (fLst f) := .mk fun hK tk σ st σV H ρ Q er sr h =>
  mx_of (pe_lst pa_mx) (ha hK tk σ st σV H ρ _ er sr (Ok1.bindA h fun ds st1 vs H1 ρ1 l1 s1 r1 h1 => by
    by_cases hs : small ds.length = true
    · rw [if_pos hs] at h1
      refine ⟨by rw [← r1.length]; exact small_le hs, fun p hp => h1 _ _ ρ1 (s1.leLay hp) (s1.lay hp) (Rp.of_lst s1 hp r1)⟩
    · rw [if_neg hs] at h1
      exact h1.elim))
theorem se_lstM {es : List Expr} {f : FA} {pos} (ha : SA g E X es f) : SE g E X (.List es pos) (fLstM f) := .mk fun hK tk σ st σV H ρ Q er sr h =>
  mx_of (pe_lst pa_mx) (ha hK tk σ st σV H ρ _ er sr (Ok1.bindA h fun ds st1 vs H1 ρ1 l1 s1 r1 h1 => by
    by_cases hs : small ds.length = true
    · rw [if_pos hs] at h1
      refine ⟨by rw [← r1.length]; exact small_le hs, fun p hp => h1 _ _ (ρ1.push p) (s1.leNew hp) (s1.newLst hp r1) (Rp.of_loc s1)⟩
    · rw [if_neg hs] at h1
      exact h1.elim))

/-! ### operators by values -/
/-- what an operator does to two values, over the heap's reading r -/
def SOp (g : G) (r : R2) (d : D → D → Store → Option (D × Store)) : Prop := ∀ (x y z : D) (st st' : Store) (ρ : Pl) (H : Hp) (v w : V) (Q : VK), SR g ρ st H → Rp g ρ H x v → Rp g ρ H y w → d x y st = some (z, st') →
  (∀ (u : V) (H' : Hp) (ρ' : Pl), Le ρ H ρ' H' → SR g ρ' st' H' → Rp g ρ' H' z u → Q u H') → r v w H Q
def R.of {α : Type} (o : Option (α × Store)) : R α := match o with
  | some (a, st) => .ok a st
  | none => .stk
def fOp (d : D → D → Store → Option (D × Store)) (f k : FE) : FE := fun σ st => (f σ st).bind fun x st1 => (k σ st1).bind fun y st2 => R.of (d x y st2)
theorem Ok1.of {E : XK} {Q : VK} {o : Option (D × Store)} (h : Ok1 g ρ H E Q (R.of o)) : ∃ z st', o = some (z, st') ∧ ∀ (u : V) (H' : Hp) (ρ' : Pl), Le ρ H ρ' H' → SR g ρ' st' H' → Rp g ρ' H' z u → Q u H' := by
  cases o with
  | none => exact h.elim
  | some p => exact ⟨p.1, p.2, rfl, h⟩
theorem bin_of {a b : Expr} {f k : FE} {d : D → D → Store → Option (D × Store)} {r : R2} {σ : Env} {st : Store} {σV : L2.St} {Q : VK} (hK : X.K = g.K) (tk : Tk X E) (ha : SE g E X a f) (hb : SE g E X b k) (hd : SOp g r d) (er : ER g ρ H σ σV) (sr : SR g ρ st H)
    (h : Ok1 g ρ H E Q (fOp d f k σ st)) : tOp r (mxE X a) (mxE X b) σV H Q :=
  ha hK tk σ st σV H ρ _ er sr (Ok1.bind h fun x st1 v H1 ρ1 l1 s1 r1 h1 => hb hK tk σ st1 σV H1 ρ1 _ (er.mono l1) s1 (Ok1.bind h1 fun y st2 w H2 ρ2 l2 s2 r2 h2 => by
    obtain ⟨z, st', e, q⟩ := h2.of
    exact hd x y z st2 st' ρ2 H2 v w Q s2 (r1.mono l2) r2 e q))
theorem se_op {a b : Expr} {f k : FE} {op : Operator} {pos : Pos} {d : D → D → Store → Option (D × Store)} {r : R2} (ho : OpR X (binaryOp op) r) (hd : SOp g r d) (ha : SE g E X a f) (hb : SE g E X b k) : SE g E X (.BinOp a op b pos) (fOp d f k) :=
  .mk fun hK tk σ st σV H ρ Q er sr h => mx_of (pe_op ho pe_mx pe_mx) (bin_of hK tk ha hb hd er sr h)
theorem se_cmp {a b : Expr} {f k : FE} {op : CmpOp} {pos : Pos} {d : D → D → Store → Option (D × Store)} {r : R2} (ho : OpR X (compareOp op) r) (hd : SOp g r d) (ha : SE g E X a f) (hb : SE g E X b k) (hm : behindInMarks op b = false) : SE g E X (.Compare a [op] [b] pos) (fOp d f k) :=
  .mk fun hK tk σ st σV H ρ Q er sr h => mx_of (pe_cmpR ho pe_mx pe_mx hm) (bin_of hK tk ha hb hd er sr h)
/-- a value that must be a truth, as a test -/
def fTru (f : FE) : FT := fun σ st => (f σ st).bind fun x st1 => match x with
  | .bl b => .ok b st1
  | _ => .stk
theorem st_of_E {e : Expr} {f : FE} (he : SE g E X e f) {t : TE → TT} (ht : PT X e (t (mxE X e))) (hq : ∀ (σV : L2.St) (H : Hp) (Q : Bool → Hp → Prop), mxE X e σV H (fun x H1 => ∃ c, x = V.bl c ∧ Q c H1) → t (mxE X e) σV H Q) : ST g E X e (fTru f) := .mk fun hK tk σ st σV H ρ Q er sr h =>
  mt_of ht (hq _ _ _ (he hK tk σ st σV H ρ _ er sr (OkT.bind h fun d st1 v H1 ρ1 l1 s1 r1 h1 => by
    cases d with
    | bl b => exact ⟨b, r1, h1 H1 ρ1 (Le.refl _ _) s1⟩
    | _ => exact h1.elim)))
/-- an expression that gives True or False, as a test -/
theorem st_val {e : Expr} {f : FE} (he : SE g E X e f) (hp : ∀ whole, isTrue e X.env whole = (do let v ← whole; standAt e.pos; holding [v] (truthy v)) := by intro _; rfl) : ST g E X e (fTru f) :=
  st_of_E he (t := tB) (pt_val pe_mx hp) fun _ _ _ h => h
theorem st_cmp {a b : Expr} {f k : FE} {op : CmpOp} {pos : Pos} {d : D → D → Store → Option (D × Store)} {r : R2} (ho : OpR X (compareOp op) r) (hd : SOp g r d) (ha : SE g E X a f) (hb : SE g E X b k) (hm : behindInMarks op b = false) : ST g E X (.Compare a [op] [b] pos) (fTru (fOp d f k)) :=
  .mk fun hK tk σ st σV H ρ Q er sr h => mt_of (pt_cmpR ho pe_mx pe_mx hm) (bin_of hK tk ha hb hd er sr (OkT.bind' h fun x st1 v H1 ρ1 l1 s1 r1 h1 => by
    cases x with
    | bl b => exact ⟨b, r1, h1 H1 ρ1 (Le.refl _ _) s1⟩
    | _ => exact h1.elim))

/-! ### and, or, not, if .. else -/
def fAnd (f k : FT) : FT := fun σ st => (f σ st).bind fun b st1 => if b then k σ st1 else .ok false st1
def fOr (f k : FT) : FT := fun σ st => (f σ st).bind fun b st1 => if b then .ok true st1 else k σ st1
def fNot (f : FT) : FT := fun σ st => (f σ st).bind fun b st1 => .ok (!b) st1
structure SW (g : G) (E : XK) (X : Cx) (e : Expr) (f : FT) : Prop where
  run : X.K = g.K → Tk X E → ∀ (σ : Env) (st : Store) (σV : L2.St) (H : Hp) (ρ : Pl) (Q : Bool → Hp → Prop), ER g ρ H σ σV → SR g ρ st H → OkT g ρ H E Q (f σ st) →
    ∀ (whole : Sem Value) pins s, Inv X pins σV H s → wpAny (model X.prog X.w) X.A (isTrue e X.env whole) (TP X pins σV Q) X.xe s
instance {g : G} {E : XK} {X : Cx} {e : Expr} {f : FT} : CoeFun (SW g E X e f) (fun _ => X.K = g.K → Tk X E → ∀ (σ : Env) (st : Store) (σV : L2.St) (H : Hp) (ρ : Pl) (Q : Bool → Hp → Prop), ER g ρ H σ σV → SR g ρ st H → OkT g ρ H E Q (f σ st) →
  ∀ (whole : Sem Value) pins s, Inv X pins σV H s → wpAny (model X.prog X.w) X.A (isTrue e X.env whole) (TP X pins σV Q) X.xe s) := ⟨SW.run⟩
def mxW (X : Cx) (e : Expr) : TT := fun σ H Q => ∀ (whole : Sem Value) pins s, Inv X pins σ H s → wpAny (model X.prog X.w) X.A (isTrue e X.env whole) (TP X pins σ Q) X.xe s
theorem pw_mx {e : Expr} : PW X e (mxW X e) := ⟨fun wh pins s σ H Q I h => h wh pins s I⟩
theorem SW.st {e : Expr} {f : FT} (h : SW g E X e f) : ST g E X e f := .mk fun hK tk σ st σV H ρ Q er sr q => mt_of (pw_mx (e := e)).pt (h hK tk σ st σV H ρ Q er sr q)
section
variable {a b : Expr} {rest : List Expr} {pos : Pos} {f k : FT}
theorem sw_and1 (ha : ST g E X a f) : SW g E X (.BoolOp .And [a] pos) f := .mk fun hK tk σ st σV H ρ Q er sr h wh pins s I => (pw_and1 (pt_mx (e := a))).run wh pins s σV H Q I (ha hK tk σ st σV H ρ Q er sr h)
theorem sw_or1 (ha : ST g E X a f) : SW g E X (.BoolOp .Or [a] pos) f := .mk fun hK tk σ st σV H ρ Q er sr h wh pins s I => (pw_or1 (pt_mx (e := a))).run wh pins s σV H Q I (ha hK tk σ st σV H ρ Q er sr h)
theorem sw_and (ha : ST g E X a f) (hb : SW g E X (.BoolOp .And (b :: rest) pos) k) : SW g E X (.BoolOp .And (a :: b :: rest) pos) (fAnd f k) := .mk fun hK tk σ st σV H ρ Q er sr h wh pins s I =>
  (pw_and (pt_mx (e := a)) (pw_mx (e := .BoolOp .And (b :: rest) pos))).run wh pins s σV H Q I (ha hK tk σ st σV H ρ _ er sr (OkT.bindT h fun c st1 H1 ρ1 l1 s1 h1 => by
    cases c with
    | true => exact hb hK tk σ st1 σV H1 ρ1 Q (er.mono l1) s1 h1
    | false => exact h1 H1 ρ1 (Le.refl _ _) s1))
theorem sw_or (ha : ST g E X a f) (hb : SW g E X (.BoolOp .Or (b :: rest) pos) k) : SW g E X (.BoolOp .Or (a :: b :: rest) pos) (fOr f k) := .mk fun hK tk σ st σV H ρ Q er sr h wh pins s I =>
  (pw_or (pt_mx (e := a)) (pw_mx (e := .BoolOp .Or (b :: rest) pos))).run wh pins s σV H Q I (ha hK tk σ st σV H ρ _ er sr (OkT.bindT h fun c st1 H1 ρ1 l1 s1 h1 => by
    cases c with
    | true => exact h1 H1 ρ1 (Le.refl _ _) s1
    | false => exact hb hK tk σ st1 σV H1 ρ1 Q (er.mono l1) s1 h1))
theorem st_not (ha : ST g E X a f) : ST g E X (.UnaryOp .Not a pos) (fNot f) := .mk fun hK tk σ st σV H ρ Q er sr h =>
  mt_of (pt_not (pt_mx (e := a))) (ha hK tk σ st σV H ρ _ er sr (OkT.bindT h fun c st1 H1 ρ1 l1 s1 h1 => h1 H1 ρ1 (Le.refl _ _) s1))
end
/-- .. as values, all of them truths -/
def asB (f : FE) (k : Bool → Store → R D) : Env → Store → R D := fun σ st => (f σ st).bind fun x st1 => match x with
  | .bl b => k b st1
  | _ => .stk
def fAndV (f k : FE) : FE := fun σ st => asB f (fun b st1 => if b then k σ st1 else .ok (.bl false) st1) σ st
def fOrV (f k : FE) : FE := fun σ st => asB f (fun b st1 => if b then .ok (.bl true) st1 else k σ st1) σ st
def fNotV (f : FE) : FE := fun σ st => asB f (fun b st1 => .ok (.bl (!b)) st1) σ st
theorem asB_of {f : FE} {q : Bool → Store → R D} {Q : VK} {Q' : Bool → Hp → Prop} {σ : Env} {st : Store} (h : Ok1 g ρ H E Q (asB f q σ st)) (z : ∀ b st' (H' : Hp) (ρ' : Pl), Le ρ H ρ' H' → SR g ρ' st' H' → Ok1 g ρ' H' E Q (q b st') → Q' b H') :
    Ok1 g ρ H E (fun x H1 => ∃ c, x = V.bl c ∧ Q' c H1) (f σ st) := Ok1.bind h fun d st1 v H1 ρ1 l1 s1 r1 h1 => by
  cases d with
  | bl b => exact ⟨b, r1, z b st1 H1 ρ1 l1 s1 h1⟩
  | _ => exact h1.elim
section
variable {a b c : Expr} {rest : List Expr} {pos : Pos} {f k m : FE} {t : FT}
theorem se_one {op} (ha : SE g E X a f) : SE g E X (.BoolOp op [a] pos) f := .mk fun hK tk σ st σV H ρ Q er sr h => mx_of (pe_one (pe_mx (e := a))) (ha hK tk σ st σV H ρ Q er sr h)
theorem se_and (ha : SE g E X a f) (hb : SE g E X (.BoolOp .And (b :: rest) pos) k) : SE g E X (.BoolOp .And (a :: b :: rest) pos) (fAndV f k) := .mk fun hK tk σ st σV H ρ Q er sr h =>
  mx_of (pe_and (pe_mx (e := a)) (pe_mx (e := .BoolOp .And (b :: rest) pos))) (ha hK tk σ st σV H ρ _ er sr (asB_of h fun c st1 H1 ρ1 l1 s1 h1 => by
    cases c with
    | true => exact hb hK tk σ st1 σV H1 ρ1 Q (er.mono l1) s1 h1
    | false => exact h1 _ H1 ρ1 (Le.refl _ _) s1 rfl))
theorem se_or (ha : SE g E X a f) (hb : SE g E X (.BoolOp .Or (b :: rest) pos) k) : SE g E X (.BoolOp .Or (a :: b :: rest) pos) (fOrV f k) := .mk fun hK tk σ st σV H ρ Q er sr h =>
  mx_of (pe_or (pe_mx (e := a)) (pe_mx (e := .BoolOp .Or (b :: rest) pos))) (ha hK tk σ st σV H ρ _ er sr (asB_of h fun c st1 H1 ρ1 l1 s1 h1 => by
    cases c with
    | true => exact h1 _ H1 ρ1 (Le.refl _ _) s1 rfl
    | false => exact hb hK tk σ st1 σV H1 ρ1 Q (er.mono l1) s1 h1))
theorem se_not (ha : SE g E X a f) : SE g E X (.UnaryOp .Not a pos) (fNotV f) := .mk fun hK tk σ st σV H ρ Q er sr h =>
  mx_of (pe_not (pe_mx (e := a))) (ha hK tk σ st σV H ρ _ er sr (asB_of h fun c st1 H1 ρ1 l1 s1 h1 => h1 _ H1 ρ1 (Le.refl _ _) s1 rfl))
def fIf (t : FT) (f k : FE) : FE := fun σ st => (t σ st).bind fun b st1 => if b then f σ st1 else k σ st1
theorem se_if (hc : ST g E X c t) (ha : SE g E X a f) (hb : SE g E X b k) : SE g E X (.IfExp c a b pos) (fIf t f k) := .mk fun hK tk σ st σV H ρ Q er sr h =>
  mx_of (pe_ifExp (pt_mx (e := c)) (pe_mx (e := a)) (pe_mx (e := b))) (hc hK tk σ st σV H ρ _ er sr (Ok1.bindT h fun c st1 H1 ρ1 l1 s1 h1 => by
    cases c with
    | true => exact ha hK tk σ st1 σV H1 ρ1 Q (er.mono l1) s1 h1
    | false => exact hb hK tk σ st1 σV H1 ρ1 Q (er.mono l1) s1 h1))
end

/-! ### statements -/
def sNil : FS := fun σ st => .nx σ st
def sSeq (f k : FS) : FS := fun σ st => (f σ st).then k
def sRet (f : FE) : FS := fun σ st => (f σ st).thn fun d st1 => .rt d st1
def sRetN : FS := fun _ st => .rt .non st
def sDrop (f : FE) : FS := fun σ st => (f σ st).thn fun _ st1 => .nx σ st1
def sSet (i : Nat) (f : FE) : FS := fun σ st => (f σ st).thn fun d st1 => .nx (σ.set i (some d)) st1
def sIf (t : FT) (f k : FS) : FS := fun σ st => (t σ st).thn fun b st1 => if b then f σ st1 else k σ st1
def sBrk : FS := fun σ st => .bk σ st
def sCnt : FS := fun σ st => .ct σ st
section
variable {s : Stmt} {rest a b : List Stmt} {e : Expr} {pos : Pos} {f k : FS} {fe : FE} {t : FT}
theorem sb_nil : SB g E X [] sNil := .mk fun hK tk σ st σV H ρ Z er sr h => mb_of pss_nil (h σV H ρ (Le.refl _ _) sr er)
theorem sb_cons (h1 : SS g E X s f) (h2 : SB g E X rest k) : SB g E X (s :: rest) (sSeq f k) := .mk fun hK tk σ st σV H ρ Z er sr h =>
  mb_of (pss_cons (ps_mx (st := s)) (pss_mx (sts := rest))) (h1 hK tk σ st σV H ρ { Z with nx := mxB X rest Z } er sr (by
    unfold sSeq at h
    cases e : f σ st with
    | nx σ' st' =>
      rw [e] at h
      exact fun σV' H' ρ' l s' er' => h2 hK tk σ' st' σV' H' ρ' Z er' s' (OkS.mono l h)
    | rt d st' => rw [e] at h; exact h
    | bk σ' st' => rw [e] at h; exact h
    | ct σ' st' => rw [e] at h; exact h
    | exc c st' => rw [e] at h; exact h
    | stk => rw [e] at h; exact h))
theorem sb_one (h1 : SS g E X s f) : SB g E X [s] f := .mk fun hK tk σ st σV H ρ Z er sr h => mb_of (pss_one (ps_mx (st := s))) (h1 hK tk σ st σV H ρ Z er sr h)
theorem ss_pass : SS g E X (.Pass pos) sNil := .mk fun hK tk σ st σV H ρ Z er sr h => ms_of ps_pass (h σV H ρ (Le.refl _ _) sr er)
theorem ss_brk : SS g E X (.Break pos) sBrk := .mk fun hK tk σ st σV H ρ Z er sr h => ms_of ps_break (h σV H ρ (Le.refl _ _) sr er)
theorem ss_cnt : SS g E X (.Continue pos) sCnt := .mk fun hK tk σ st σV H ρ Z er sr h => ms_of ps_continue (h σV H ρ (Le.refl _ _) sr er)
theorem ss_ret (he : SE g E X e fe) : SS g E X (.Return (some e) pos) (sRet fe) := .mk fun hK tk σ st σV H ρ Z er sr h =>
  ms_of (ps_ret (pe_mx (e := e))) (he hK tk σ st σV H ρ _ er sr (OkS.thn h fun d st1 v H1 ρ1 l1 s1 r1 h1 => h1 v H1 ρ1 (Le.refl _ _) s1 r1))
theorem ss_retN : SS g E X (.Return none pos) sRetN := .mk fun hK tk σ st σV H ρ Z er sr h => ms_of ps_retN (h .non H ρ (Le.refl _ _) sr rfl)
theorem ss_drop (he : SE g E X e fe) (hs : swapsWith e none pos.line X.env = pure false := by rfl) : SS g E X (.Expr e pos) (sDrop fe) := .mk fun hK tk σ st σV H ρ Z er sr h =>
  ms_of (ps_expr (pe_mx (e := e)) hs) (he hK tk σ st σV H ρ _ er sr (OkS.thn h fun d st1 v H1 ρ1 l1 s1 r1 h1 => h1 σV H1 ρ1 (Le.refl _ _) s1 (er.mono l1)))
theorem ss_set {i : Nat} {x : Str} {pos' : Pos} (hN : X.N.Nodup) (hi : X.N[i]? = some x) (hx : Loc X.env.scope x) (he : SE g E X e fe) (hs : swapsWith e (some (.Name x pos')) pos.line X.env = pure false := by rfl) (hf : X.fn x = true ∨ X.env.scope.names.lookup x = some .local := by first | exact .inl rfl | exact .inr rfl | assumption) :
    SS g E X (.Assign [.Name x pos'] e pos) (sSet i fe) := .mk fun hK tk σ st σV H ρ Z er sr h =>
  ms_of (ps_set hN hi hx (pe_mx (e := e)) hs hf) (he hK tk σ st σV H ρ _ er sr (OkS.thn h fun d st1 v H1 ρ1 l1 s1 r1 h1 => h1 _ H1 ρ1 (Le.refl _ _) s1 ((er.mono l1).set i r1)))
theorem ss_if (hc : ST g E X e t) (ha : SB g E X a f) (hb : SB g E X b k) : SS g E X (.If e a b pos) (sIf t f k) := .mk fun hK tk σ st σV H ρ Z er sr h =>
  ms_of (ps_if (pt_mx (e := e)) (pss_mx (sts := a)) (pss_mx (sts := b))) (hc hK tk σ st σV H ρ _ er sr (OkS.thnT h fun c st1 H1 ρ1 l1 s1 h1 => by
    cases c with
    | true => exact ha hK tk σ st1 σV H1 ρ1 Z (er.mono l1) s1 h1
    | false => exact hb hK tk σ st1 σV H1 ρ1 Z (er.mono l1) s1 h1))
end

/-! ### a def, called -/
/-- the promise: the evaluator's own word -/
def spD (g : G) (n : Nat) (c : List D → Store → R D) : Sp := fun vs H Q E => vs.length = n ∧ ∃ (ds : List D) (st : Store) (ρ : Pl), Rps g ρ H ds vs ∧ SR g ρ st H ∧ Ok1 g ρ H E Q (c ds st)
def startD (m : Nat) (ds : List D) : Env := ds.map some ++ List.replicate (m - ds.length) none
/-- a def by its body -/
def callB (m : Nat) (f : FS) : List D → Store → R D := fun ds st => endOf st (f (startD m ds) st)
theorem er_start {N : List Str} {ds : List D} {vs : List V} (r : Rps g ρ H ds vs) : ER g ρ H (startD N.length ds) (L2.start N vs) := by
  refine ⟨by unfold startD L2.start; simp [r.length], fun i d h => ?_⟩
  unfold startD at h
  unfold L2.start
  by_cases hi : i < ds.length
  · rw [List.getElem?_append_left (by rw [List.length_map]; exact hi), List.getElem?_map] at h
    cases e : ds[i]? with
    | none => rw [e] at h; cases h
    | some d' =>
      rw [e] at h
      have h' : d' = d := by simpa using h
      subst h'
      obtain ⟨v, q1, q2⟩ := r.get e
      refine ⟨v, ?_, q2⟩
      rw [List.getElem?_append_left (by rw [List.length_map, ← r.length]; exact hi), List.getElem?_map, q1] <;> rfl
  · rw [List.getElem?_append_right (by rw [List.length_map]; omega), List.getElem?_replicate] at h
    split at h <;> cases h
theorem OkS.ofEnd {E : XK} {Q : VK} {st : Store} (sr : SR g ρ st H) : ∀ {r : F}, Ok1 g ρ H E Q (endOf st r) → OkS g ρ H E { nx := fun _ H' => Q .non H', rt := Q } r
  | .nx σ' st2, h => fun σV H' ρ' l s er => by
    have h : Ok1 g ρ H E Q (fin st .non st2) := h
    unfold fin at h
    by_cases hc : (okOld st.length st st2 && D.lim st.length (frzN st.length st2 6 .non)) = true
    · rw [if_pos hc] at h
      simp only [Bool.and_eq_true] at hc
      obtain ⟨a, b, c⟩ := cut_ok sr l s hc.1
      exact h .non H' ρ b a (c 6 .non .non rfl hc.2)
    · rw [if_neg hc] at h
      exact h .non H' ρ' l s rfl
  | .rt d st2, h => fun v H' ρ' l s r => by
    have h : Ok1 g ρ H E Q (fin st d st2) := h
    unfold fin at h
    by_cases hc : (okOld st.length st st2 && D.lim st.length (frzN st.length st2 6 d)) = true
    · rw [if_pos hc] at h
      simp only [Bool.and_eq_true] at hc
      obtain ⟨a, b, c⟩ := cut_ok sr l s hc.1
      exact h v H' ρ b a (c 6 d v r hc.2)
    · rw [if_neg hc] at h
      exact h v H' ρ' l s r
  | .bk _ _, h => h.elim
  | .ct _ _, h => h.elim
  | .exc c st2, h => fun H' ρ' l s => by
    have h : Ok1 g ρ H E Q (finX st c st2) := h
    unfold finX at h
    by_cases hc : okOld st.length st st2 = true
    · rw [if_pos hc] at h
      obtain ⟨a, b, _⟩ := cut_ok sr l s hc
      exact h H' ρ b a
    · rw [if_neg hc] at h
      exact h H' ρ' l s
  | .stk, h => h.elim
section
variable {P : Program} {w : World} {mg : Str → Option Value} {base : Heap}
/-- THE RULE for a def -/
theorem fn_ok {x qual : Str} {s : Stmt} {fa : Addr} {fd : FuncData} {N ps : List Str} {k : Nat} {f : FS} (F : Fun g.K x qual s fa fd) (S : FnScope N ps (defScope s))
    (hbody : ∀ (cdv : Value) (A : Around) (outer : List PySem.Env) (s1 : Shared) (H : Hp) (E : XK), Room k (A.deeper (envOfC qual (defScope s) s1.heap.objs.size fa cdv)) → SB g E (cxOf (L2N.CX P w) P w g.K mg base N qual (defScope s) fa cdv A outer s1 H E) (defBody s) f) :
    FnOk P w g.K mg base (L2N.CX P w) (k + 1) fa fd ps (spD g ps.length (callB N.length f)) := by
  obtain ⟨oc, od, kV, doc, pm, an, cdv, ct, osl, e, lk, hcd⟩ := F.ex
  subst e
  refine fn_of lk hcd S (fun vs H Q E h => h.1) fun A outer s1 H vs Q E hr h => ?_
  obtain ⟨hl, ds, st, ρ, r, sr, ok⟩ := h
  exact ⟨_, pss_mx, hbody cdv A outer s1 H E hr rfl (L2N.takes_of rfl rfl rfl rfl) _ st _ H ρ _ (er_start r) sr (OkS.ofEnd sr ok)⟩
end
def fCall (c : List D → Store → R D) (fa : FA) : FE := fun σ st => (fa σ st).bind c
theorem se_call {k n : Nat} {a : Addr} {fd : FuncData} {ps : List Str} {c : List D → Store → R D} {x : Str} {p pos : Pos} {e : Expr} {es : List Expr} {fa : FA} (F : FnOk X.prog X.w X.K X.mg X.base (L2N.CX X.prog X.w) k a fd ps (spD g n c)) (hr : Room k X.A) (hg : Gl X x) (hm : X.mg x = some (.ref a))
    (hk : PySem.W.keepIn X.K (.ref a) = true) (hb : L2.Binds X.K fd ps []) (hn : ps.length = n) (ha : SA g E X (e :: es) fa) (hl : ∀ σ st ds st', fa σ st = .ok ds st' → ds.length = n) (hdb : (x == ("__debug__" : Str)) = false := by decide) (he : starEach (e :: es) X.env = (false, eval e X.env) :: starEach es X.env := by rfl)
    (hpl : (backTo pos (starEach es X.env)).any (·.1) = false := by rfl) : SE g E X (.Call (.Name x p) (e :: es) [] pos) (fCall c fa) := .mk fun hK tk σ st σV H ρ Q er sr h =>
  mx_of (pe_call (E := E) F hr hg hm hk hb .nil (L2N.passes_call tk (fun _ _ _ _ z => z)) (pa_mx (es := e :: es)) hdb he hpl) (ha hK tk σ st σV H ρ _ er sr (by
    have q := Ok1.bindA (Q' := fun vs H1 => vs.length = n → spD g n c (vs ++ []) H1 Q E) h fun ds st1 vs H1 ρ1 l1 s1 r1 h1 hz => ⟨by rw [List.append_nil]; exact hz, ds, st1, ρ1, by rw [List.append_nil]; exact r1, s1, h1⟩
    cases e1 : fa σ st with
    | ok ds st' =>
      rw [e1] at q
      exact fun vs H' ρ' l s r => q vs H' ρ' l s r (by rw [← r.length]; exact hl σ st ds st' e1)
    | exc c st' => rw [e1] at q; exact q
    | stk => rw [e1] at q; exact q))
end Hw
/-! HwC: operators and built-ins by values. -/
namespace Hw
open PySem PySem.Spec PyProof.Rows L2
variable {g : G} {ρ ρ' ρ'' : Pl} {H H' H'' : Hp} {E : XK} {X : Cx}

/-! ### looking at lists and tuples -/
def listOf (st : Store) : D → Option (List D)
  | .lst xs => some xs
  | .loc n => match st[n]? with
    | some (.lst xs) => some xs
    | _ => none
  | _ => none
theorem listOf_ok {st : Store} (sr : SR g ρ st H) {d : D} {v : V} {xs : List D} (r : Rp g ρ H d v) (h : listOf st d = some xs) : ∃ a vs, v = .ref a ∧ Rd H a (.lst vs) ∧ Rps g ρ H xs vs := by
  cases d with
  | lst ys =>
    cases h
    obtain ⟨a, vs, e, h1, h2⟩ := r
    exact ⟨a, vs, e, h1.2, h2⟩
  | loc n =>
    obtain ⟨a, e, hn⟩ := r
    simp only [listOf] at h
    cases hc : st[n]? with
    | none => rw [hc] at h; cases h
    | some c =>
      rw [hc] at h
      cases c with
      | lst ys =>
        cases h
        obtain ⟨a', e', vs, q1, q2⟩ := sr.cell n _ hc
        rw [hn] at e'
        cases e'
        exact ⟨a, vs, e, .inl q1, q2⟩
      | dic ks ys => cases h
      | ins c fs ys => cases h
  | _ => cases h
theorem tup_ok {ds : List D} {v : V} (hK : X.K = g.K) (r : Rp g ρ H (.tup ds) v) : ∃ a vs, v = .ref a ∧ SqT X.K H a vs ∧ Rps g ρ H ds vs := by
  obtain ⟨a, vs, e, h1, h2⟩ := r
  refine ⟨a, vs, e, ?_, h2⟩
  rcases h1 with h1 | h1
  · exact .inl h1.2
  · rw [hK]
    exact .inr h1
/-- the items of a list or a tuple -/
def seqOf (st : Store) : D → Option (List D)
  | .tup xs => some xs
  | d => listOf st d
theorem seqOf_ok {st : Store} (hK : X.K = g.K) (sr : SR g ρ st H) {d : D} {v : V} {xs : List D} (r : Rp g ρ H d v) (h : seqOf st d = some xs) : ∃ a vs, v = .ref a ∧ (SqL X.K H a vs ∨ SqT X.K H a vs) ∧ Rps g ρ H xs vs := by
  cases d with
  | tup ys =>
    cases h
    obtain ⟨a, vs, e, q, z⟩ := tup_ok hK r
    exact ⟨a, vs, e, .inr q, z⟩
  | lst ys =>
    obtain ⟨a, vs, e, q, z⟩ := listOf_ok sr r (show listOf st _ = some xs from h)
    exact ⟨a, vs, e, .inl (.inl q), z⟩
  | loc n =>
    obtain ⟨a, vs, e, q, z⟩ := listOf_ok sr r (show listOf st _ = some xs from h)
    exact ⟨a, vs, e, .inl (.inl q), z⟩
  | _ => cases h
theorem Rps.ints : ∀ {ds : List D} {vs : List V} {ns : List Int}, Rps g ρ H ds vs → ds = ns.map D.int → vs = ns.map V.int
  | [], vs, [], h, _ => h
  | d :: ds, vs, n :: ns, h, e => by
    obtain ⟨v, r, e1, h1, h2⟩ := h
    injection e with e2 e3
    subst e2 e1
    rw [Rps.ints h2 e3, show v = V.int n from h1] <;> rfl
  | [], _, _ :: _, _, e => by cases e
  | _ :: _, _, [], _, e => by cases e
/-- all of them whole numbers, texts, truths -/
def intsOf : List D → Option (List Int)
  | [] => some []
  | .int i :: r => (intsOf r).map (i :: ·)
  | _ => none
def strsOf : List D → Option (List Str)
  | [] => some []
  | .str s :: r => (strsOf r).map (s :: ·)
  | _ => none
def blsOf : List D → Option (List Bool)
  | [] => some []
  | .bl b :: r => (blsOf r).map (b :: ·)
  | _ => none
theorem intsOf_ok : ∀ {ds : List D} {vs : List V} {ns : List Int}, Rps g ρ H ds vs → intsOf ds = some ns → vs = ns.map V.int
  | [], vs, ns, h, e => by cases e; exact h
  | d :: ds, vs, ns, h, e => by
    obtain ⟨v, r, e1, h1, h2⟩ := h
    cases d with
    | int i =>
      simp only [intsOf, Option.map_eq_some_iff] at e
      obtain ⟨ms, e2, e3⟩ := e
      subst e3 e1
      rw [intsOf_ok h2 e2, show v = V.int i from h1] <;> rfl
    | _ => cases e
theorem strsOf_ok : ∀ {ds : List D} {vs : List V} {ns : List Str}, Rps g ρ H ds vs → strsOf ds = some ns → vs = ns.map V.str
  | [], vs, ns, h, e => by cases e; exact h
  | d :: ds, vs, ns, h, e => by
    obtain ⟨v, r, e1, h1, h2⟩ := h
    cases d with
    | str i =>
      simp only [strsOf, Option.map_eq_some_iff] at e
      obtain ⟨ms, e2, e3⟩ := e
      subst e3 e1
      rw [strsOf_ok h2 e2, show v = V.str i from h1] <;> rfl
    | _ => cases e
theorem blsOf_ok : ∀ {ds : List D} {vs : List V} {ns : List Bool}, Rps g ρ H ds vs → blsOf ds = some ns → vs = ns.map V.bl
  | [], vs, ns, h, e => by cases e; exact h
  | d :: ds, vs, ns, h, e => by
    obtain ⟨v, r, e1, h1, h2⟩ := h
    cases d with
    | bl i =>
      simp only [blsOf, Option.map_eq_some_iff] at e
      obtain ⟨ms, e2, e3⟩ := e
      subst e3 e1
      rw [blsOf_ok h2 e2, show v = V.bl i from h1] <;> rfl
    | _ => cases e
theorem Rps.of_ints : ∀ ns : List Int, Rps g ρ H (ns.map D.int) (ns.map V.int)
  | [] => rfl
  | n :: ns => ⟨.int n, _, rfl, rfl, Rps.of_ints ns⟩
theorem Rps.of_strs : ∀ ns : List Str, Rps g ρ H (ns.map D.str) (ns.map V.str)
  | [] => rfl
  | n :: ns => ⟨.str n, _, rfl, rfl, Rps.of_strs ns⟩

/-! ### + -/
/-- list + list, whether it is known to the object or not -/
def rCatR : R2 := fun x y H Q => ∃ l b xs zs, x = .ref l ∧ y = .ref b ∧ Rd H l (.lst xs) ∧ Rd H b (.lst zs) ∧ xs.length + zs.length ≤ sizeLine ∧ ∀ p, H p = none → Q (.ref p) (upd H p (.lst (xs ++ zs)))
theorem op_catR : OpR X (binaryOp .Add) rCatR := by
  intro pins s σ H x y v u Q I rx ry h
  obtain ⟨l, b, xs, zs, ex, ey, hH, hB, hz, q⟩ := h
  subst ex ey
  cases rx
  cases ry
  obtain ⟨z1, its, n, r, e⟩ := hH.ok I.hok
  obtain ⟨z2, its2, n2, r2, e2⟩ := hB.ok I.hok
  have l1 := r.length
  have l2 := r2.length
  have ea : its.toArray ++ its2.toArray = (its ++ its2).toArray := by simp
  refine PySem.P.add_list e e2 ?_ (by rw [List.size_toArray, List.size_toArray, ← l1, ← l2]; exact hz)
  rw [ea]
  exact ⟨.ref _, _, I.lnew (t' := s.toks) (r.append r2) (by rw [List.length_append]; exact hz), rfl, q _ I.fresh⟩
def rAddAll (K : PySem.W.Frag) : R2 := fun x y H Q => (rI0 fun i j => .int (i + j)) x y H Q ∨ (∃ i j, x = .str i ∧ y = .str j ∧ i.length + j.length ≤ sizeLine ∧ Q (.str (i ++ j)) H) ∨ rCatA K x y H Q ∨ rCatR x y H Q
theorem op_addAll : OpR X (binaryOp .Add) (rAddAll X.K) := op_add.or (op_add_str.or (op_catA.or op_catR))
def dAdd (x y : D) (st : Store) : Option (D × Store) := match x, y with
  | .int i, .int j => some (.int (i + j), st)
  | .str i, .str j => if small (i.length + j.length) then some (.str (i ++ j), st) else none
  | .tup a, .tup b => if small (a.length + b.length) then some (.tup (a ++ b), st) else none
  | x, y => (listOf st x).bind fun a => (listOf st y).bind fun b => if small (a.length + b.length) then some (.lst (a ++ b), st) else none
theorem rCatA_of {st : Store} (hK : X.K = g.K) (sr : SR g ρ st H) {a b : List D} {v w : V} {Q : VK} (r1 : Rp g ρ H (.tup a) v) (r2 : Rp g ρ H (.tup b) w) (hz : small (a.length + b.length) = true)
    (q : ∀ (u : V) (H' : Hp) (ρ' : Pl), Le ρ H ρ' H' → SR g ρ' st H' → Rp g ρ' H' (.tup (a ++ b)) u → Q u H') : rCatA X.K v w H Q := by
  obtain ⟨p1, vs, e1, t1, s1⟩ := tup_ok hK r1
  obtain ⟨p2, ws, e2, t2, s2⟩ := tup_ok hK r2
  refine ⟨p1, p2, vs, ws, e1, e2, t1, t2, by rw [← s1.length, ← s2.length]; exact small_le hz, fun hn => ?_, fun _ hn => ?_, fun _ _ p hp => ?_⟩
  · subst hn
    have : a = [] := by cases a with
      | nil => rfl
      | cons x xs => have := s1.length; simp at this
    subst this
    rw [List.nil_append] at q
    rw [← e2]
    exact q w H ρ (Le.refl _ _) sr r2
  · subst hn
    have : b = [] := by cases b with
      | nil => rfl
      | cons x xs => have := s2.length; simp at this
    subst this
    rw [List.append_nil] at q
    rw [← e1]
    exact q v H ρ (Le.refl _ _) sr r1
  · exact q _ _ ρ (sr.leLay hp) (sr.lay hp) (Rp.of_tup sr hp (s1.append s2))
theorem catR_of {st : Store} (sr : SR g ρ st H) {x y : D} {v w : V} {Q : VK} {a b : List D} (r1 : Rp g ρ H x v) (r2 : Rp g ρ H y w) (h1 : listOf st x = some a) (h2 : listOf st y = some b) (hz : small (a.length + b.length) = true)
    (q : ∀ vs ws p, H p = none → Rps g ρ H (a ++ b) (vs ++ ws) → Q (.ref p) (upd H p (.lst (vs ++ ws)))) : rCatR v w H Q := by
  obtain ⟨p1, vs, e1, t1, s1⟩ := listOf_ok sr r1 h1
  obtain ⟨p2, ws, e2, t2, s2⟩ := listOf_ok sr r2 h2
  exact ⟨p1, p2, vs, ws, e1, e2, t1, t2, by rw [← s1.length, ← s2.length]; exact small_le hz, fun p hp => q vs ws p hp (s1.append s2)⟩
theorem bind2 {α β γ : Type} {o : Option α} {u : Option β} {f : α → β → Option γ} {z : γ} (h : (o.bind fun a => u.bind fun b => f a b) = some z) : ∃ a b, o = some a ∧ u = some b ∧ f a b = some z := by
  cases o with
  | none => cases h
  | some a =>
    cases u with
    | none => cases h
    | some b => exact ⟨a, b, rfl, rfl, h⟩
theorem if_some {α : Type} {b : Bool} {x z : α} (h : (if b = true then some x else none) = some z) : b = true ∧ x = z := by
  cases b with
  | true => exact ⟨rfl, Option.some.inj h⟩
  | false => cases h
theorem sop_add (hK : X.K = g.K) : SOp g (rAddAll X.K) dAdd := by
  intro x y z st st' ρ H v w Q sr r1 r2 h q
  have viaL : ((listOf st x).bind fun a => (listOf st y).bind fun b => if small (a.length + b.length) then some (D.lst (a ++ b), st) else none) = some (z, st') → rAddAll X.K v w H Q := fun h => by
    obtain ⟨a, b, h1, h2, h3⟩ := bind2 h
    obtain ⟨h4, h5⟩ := if_some h3
    cases h5
    exact .inr (.inr (.inr (catR_of sr r1 r2 h1 h2 h4 fun vs ws p hp s => q _ _ ρ (sr.leLay hp) (sr.lay hp) (Rp.of_lst sr hp s))))
  cases x with
  | int i =>
    cases y with
    | int j =>
      cases h
      exact .inl ⟨i, j, r1, r2, q _ H ρ (Le.refl _ _) sr rfl⟩
    | _ => exact viaL h
  | str i =>
    cases y with
    | str j =>
      obtain ⟨h4, h5⟩ := if_some h
      cases h5
      exact .inr (.inl ⟨i, j, r1, r2, small_le h4, q _ H ρ (Le.refl _ _) sr rfl⟩)
    | _ => exact viaL h
  | tup a =>
    cases y with
    | tup b =>
      obtain ⟨h4, h5⟩ := if_some h
      cases h5
      exact .inr (.inr (.inl (rCatA_of hK sr r1 r2 h4 q)))
    | _ => exact viaL h
  | _ => exact viaL h
/-- list + list, a list that lives -/
def dAddM (x y : D) (st : Store) : Option (D × Store) := (listOf st x).bind fun a => (listOf st y).bind fun b => if small (a.length + b.length) then some (.loc st.length, st ++ [.lst (a ++ b)]) else none
theorem sop_addM : SOp g rCatR dAddM := by
  intro x y z st st' ρ H v w Q sr r1 r2 h q
  obtain ⟨a, b, h1, h2, h3⟩ := bind2 h
  obtain ⟨h4, h5⟩ := if_some h3
  cases h5
  exact catR_of sr r1 r2 h1 h2 h4 fun vs ws p hp s => q _ _ (ρ.push p) (sr.leNew hp) (sr.newLst hp s) (Rp.of_loc sr)

/-! ### -, *, //, %, ** -/
def dSub (x y : D) (st : Store) : Option (D × Store) := match x, y with
  | .int i, .int j => some (.int (i - j), st)
  | _, _ => none
theorem sop_sub : SOp g (rI0 fun i j => .int (i - j)) dSub := by
  intro x y z st st' ρ H v w Q sr r1 r2 h q
  unfold dSub at h
  split at h
  · cases h
    exact ⟨_, _, r1, r2, q _ H ρ (Le.refl _ _) sr rfl⟩
  · cases h
/-- a product that the machine makes -/
def mulOk (i j : Int) : Bool := decide (-(2 ^ 64) < i ∧ i < 2 ^ 64) || decide (-(2 ^ 64) < j ∧ j < 2 ^ 64) || decide (i.natAbs.log2 + j.natAbs.log2 < 1000000)
def rMulAll : R2 := fun x y H Q => (rI CMul fun i j => .int (i * j)) x y H Q ∨ (rI CMulW fun i j => .int (i * j)) x y H Q ∨ rRepR x y H Q
where rRepR : R2 := fun x y H Q => ∃ l k xs, x = .ref l ∧ y = .int k ∧ H l = some (.lst xs) ∧ -(2 ^ 63) ≤ k ∧ k < 2 ^ 63 ∧ xs.length * k.toNat ≤ sizeLine ∧ ∀ p, H p = none → Q (.ref p) (upd H p (.lst (List.replicate k.toNat xs).flatten))
theorem op_mulAll : OpR X (binaryOp .Mult) rMulAll := op_mul.or (op_mulW.or op_rep)
def dMul (x y : D) (st : Store) : Option (D × Store) := match x, y with
  | .int i, .int j => if mulOk i j then some (.int (i * j), st) else none
  | _, _ => none
theorem sop_mul : SOp g rMulAll dMul := by
  intro x y z st st' ρ H v w Q sr r1 r2 h q
  unfold dMul at h
  split at h
  · obtain ⟨h4, h5⟩ := if_some h
    cases h5
    simp only [mulOk, Bool.or_eq_true, decide_eq_true_eq] at h4
    rcases h4 with h4 | h4
    · exact .inl ⟨_, _, r1, r2, h4, q _ H ρ (Le.refl _ _) sr rfl⟩
    · exact .inr (.inl ⟨_, _, r1, r2, h4, q _ H ρ (Le.refl _ _) sr rfl⟩)
  · cases h
def dDiv (x y : D) (st : Store) : Option (D × Store) := match x, y with
  | .int i, .int j => if decide (0 < j) && decide (j.natAbs.log2 < 9000) then some (.int (i / j), st) else none
  | _, _ => none
theorem sop_div : SOp g (rI CDivW fun i j => .int (i / j)) dDiv := by
  intro x y z st st' ρ H v w Q sr r1 r2 h q
  unfold dDiv at h
  split at h
  · obtain ⟨h4, h5⟩ := if_some h
    cases h5
    simp only [Bool.and_eq_true, decide_eq_true_eq] at h4
    exact ⟨_, _, r1, r2, h4, q _ H ρ (Le.refl _ _) sr rfl⟩
  · cases h
def dMod (x y : D) (st : Store) : Option (D × Store) := match x, y with
  | .int i, .int j => if decide (0 < j) then some (.int (i % j), st) else none
  | _, _ => none
theorem sop_mod : SOp g (rI (fun _ j => 0 < j) fun i j => .int (i % j)) dMod := by
  intro x y z st st' ρ H v w Q sr r1 r2 h q
  unfold dMod at h
  split at h
  · obtain ⟨h4, h5⟩ := if_some h
    cases h5
    exact ⟨_, _, r1, r2, of_decide_eq_true h4, q _ H ρ (Le.refl _ _) sr rfl⟩
  · cases h
def dPow (x y : D) (st : Store) : Option (D × Store) := match x, y with
  | .int i, .int j => if decide (0 ≤ j ∧ j ≤ 1000 ∧ i.natAbs < 2 ^ 64) then some (.int (i ^ j.toNat), st) else none
  | _, _ => none
theorem sop_pow : SOp g (rI CPow fun i j => .int (i ^ j.toNat)) dPow := by
  intro x y z st st' ρ H v w Q sr r1 r2 h q
  unfold dPow at h
  split at h
  · obtain ⟨h4, h5⟩ := if_some h
    cases h5
    obtain ⟨a, b, c⟩ := of_decide_eq_true h4
    exact ⟨_, _, r1, r2, ⟨a, by omega, c⟩, q _ H ρ (Le.refl _ _) sr rfl⟩
  · cases h
def fNeg (f : FE) : FE := fun σ st => (f σ st).bind fun x st1 => match x with
  | .int i => .ok (.int (-i)) st1
  | _ => .stk
theorem se_neg {a : Expr} {f : FE} {pos : Pos} (ha : SE g E X a f) : SE g E X (.UnaryOp .USub a pos) (fNeg f) := .mk fun hK tk σ st σV H ρ Q er sr h =>
  mx_of (pe_un un_neg pe_mx) (ha hK tk σ st σV H ρ _ er sr (Ok1.bind h fun x st1 v H1 ρ1 l1 s1 r1 h1 => by
    cases x with
    | int i => exact ⟨i, r1, h1 _ H1 ρ1 (Le.refl _ _) s1 rfl⟩
    | _ => exact h1.elim))

/-! ### ==, != of data -/
mutual
def D.py : D → Option PyData
  | .non => some .none
  | .bl b => some (.bool b)
  | .int i => some (.int i)
  | .str s => some (.str s)
  | .tup xs => (D.pys xs).map .tuple
  | .lst xs => (D.pys xs).map .list
  | _ => none
def D.pys : List D → Option (List PyData)
  | [] => some []
  | x :: xs => (D.py x).bind fun p => (D.pys xs).map (p :: ·)
end
mutual
theorem Rp.dp : ∀ (d : D) (v : V) (p : PyData), Rp g ρ H d v → D.py d = some p → Dp g.K H v p
  | .non, v, p, r, h => by cases h; cases r; exact .non
  | .bl b, v, p, r, h => by cases h; cases r; exact .bl b
  | .int i, v, p, r, h => by cases h; cases r; exact .int i
  | .str s, v, p, r, h => by cases h; cases r; exact .str s
  | .tup xs, v, p, r, h => by
    simp only [D.py, Option.map_eq_some_iff] at h
    obtain ⟨ps, h1, h2⟩ := h
    simp only [Rp] at r
    obtain ⟨a, vs, e, t, s⟩ := r
    subst h2 e
    refine .tup (xs := vs) ?_ (Rps.dp xs vs ps s h1)
    exact t.imp (fun z => z.2) id
  | .lst xs, v, p, r, h => by
    simp only [D.py, Option.map_eq_some_iff] at h
    obtain ⟨ps, h1, h2⟩ := h
    simp only [Rp] at r
    obtain ⟨a, vs, e, t, s⟩ := r
    subst h2 e
    exact .lst (xs := vs) (.inl t.2) (Rps.dp xs vs ps s h1)
  | .dic _ _, _, _, _, h => by cases h
  | .loc _, _, _, _, h => by cases h
  | .cls _, _, _, _, h => by cases h
  | .fn _, _, _, _, h => by cases h
theorem Rps.dp : ∀ (ds : List D) (vs : List V) (ps : List PyData), Rps g ρ H ds vs → D.pys ds = some ps → DpAll g.K H vs ps
  | [], vs, ps, r, h => by
    cases h
    have e : vs = [] := r
    subst e
    exact .nil
  | d :: ds, vs, ps, r, h => by
    simp only [D.pys] at h
    simp only [Rps] at r
    obtain ⟨v, r', e, h1, h2⟩ := r
    cases hp : D.py d with
    | none => rw [hp] at h; cases h
    | some p =>
      rw [hp] at h
      simp only [Option.bind_some, Option.map_eq_some_iff] at h
      obtain ⟨qs, h3, h4⟩ := h
      subst h4 e
      exact .cons (Rp.dp d v p h1 hp) (Rps.dp ds r' qs h2 h3)
end
/-- a live list as it stands -/
def see (st : Store) (d : D) : D := match listOf st d with
  | some xs => .lst xs
  | none => d
/-- data that the machine compares -/
def pyOf (st : Store) (d : D) : Option PyData := (D.py (see st d)).bind fun p => if SeqAt.shaped p then some p else none
theorem pyOf_ok {st : Store} (sr : SR g ρ st H) {d : D} {v : V} {p : PyData} (r : Rp g ρ H d v) (h : pyOf st d = some p) : Dp g.K H v p ∧ SeqAt.shaped p = true := by
  unfold pyOf at h
  cases hp : D.py (see st d) with
  | none => rw [hp] at h; cases h
  | some q =>
    rw [hp] at h
    obtain ⟨h1, h2⟩ := if_some (show (if SeqAt.shaped q = true then some q else none) = some p from h)
    subst h2
    refine ⟨?_, h1⟩
    unfold see at hp
    cases hl : listOf st d with
    | none => rw [hl] at hp; exact Rp.dp d v q r hp
    | some xs =>
      rw [hl] at hp
      obtain ⟨a, vs, e, t, s⟩ := listOf_ok sr r hl
      simp only [D.py, Option.map_eq_some_iff] at hp
      obtain ⟨ps, h3, h4⟩ := hp
      subst h4 e
      exact .lst (xs := vs) (.inl t) (Rps.dp xs vs ps s h3)
def dEq (x y : D) (st : Store) : Option (D × Store) := (pyOf st x).bind fun p => (pyOf st y).bind fun q => some (.bl (PyData.eqv p q), st)
def dNe (x y : D) (st : Store) : Option (D × Store) := (pyOf st x).bind fun p => (pyOf st y).bind fun q => some (.bl (!PyData.eqv p q), st)
theorem sop_eq (hK : X.K = g.K) : SOp g (rEqD X.K) dEq := by
  intro x y z st st' ρ H v w Q sr r1 r2 h q
  obtain ⟨p, p', h1, h2, h3⟩ := bind2 h
  cases h3
  obtain ⟨a1, a2⟩ := pyOf_ok sr r1 h1
  obtain ⟨b1, b2⟩ := pyOf_ok sr r2 h2
  rw [hK]
  exact ⟨p, p', a1, b1, a2, b2, q _ H ρ (Le.refl _ _) sr rfl⟩
theorem sop_ne (hK : X.K = g.K) : SOp g (rNeD X.K) dNe := by
  intro x y z st st' ρ H v w Q sr r1 r2 h q
  obtain ⟨p, p', h1, h2, h3⟩ := bind2 h
  cases h3
  obtain ⟨a1, a2⟩ := pyOf_ok sr r1 h1
  obtain ⟨b1, b2⟩ := pyOf_ok sr r2 h2
  rw [hK]
  exact ⟨p, p', a1, b1, a2, b2, q _ H ρ (Le.refl _ _) sr rfl⟩
/-- <, <=, >, >= of whole numbers -/
def dOrd (p : Int → Int → Bool) (x y : D) (st : Store) : Option (D × Store) := match x, y with
  | .int i, .int j => some (.bl (p i j), st)
  | _, _ => none
theorem sop_ord {p : Int → Int → Bool} : SOp g (rI0 fun i j => .bl (p i j)) (dOrd p) := by
  intro x y z st st' ρ H v w Q sr r1 r2 h q
  unfold dOrd at h
  split at h
  · cases h
    exact ⟨_, _, r1, r2, q _ H ρ (Le.refl _ _) sr rfl⟩
  · cases h
abbrev iLt : Int → Int → Bool := fun i j => decide (i < j)
abbrev iLe : Int → Int → Bool := fun i j => decide (i ≤ j)
abbrev iGt : Int → Int → Bool := fun i j => decide (j < i)
abbrev iGe : Int → Int → Bool := fun i j => decide (j ≤ i)
/-- is None, is not None -/
def dIsN (x y : D) (st : Store) : Option (D × Store) := match y with
  | .non => some (.bl (match x with | .non => true | _ => false), st)
  | _ => none
def dNotN (x y : D) (st : Store) : Option (D × Store) := match y with
  | .non => some (.bl (match x with | .non => false | _ => true), st)
  | _ => none
theorem none_iff {d : D} {v : V} (r : Rp g ρ H d v) : decide (v = .non) = (match d with | .non => true | _ => false) := by
  cases d with
  | non => cases r; rfl
  | bl b => cases r; rfl
  | int b => cases r; rfl
  | str b => cases r; rfl
  | tup b => obtain ⟨a, _, e, _⟩ := r; subst e; rfl
  | lst b => obtain ⟨a, _, e, _⟩ := r; subst e; rfl
  | dic _ b => obtain ⟨a, _, e, _⟩ := r; subst e; rfl
  | loc b => obtain ⟨a, e, _⟩ := r; subst e; rfl
  | cls b => cases r; rfl
  | fn b => cases r; rfl
theorem sop_isN : SOp g (fun x y H Q => y = .non ∧ Q (.bl (decide (x = .non))) H) dIsN := by
  intro x y z st st' ρ H v w Q sr r1 r2 h q
  unfold dIsN at h
  split at h
  · cases h
    refine ⟨r2, ?_⟩
    rw [none_iff r1]
    have := q _ H ρ (Le.refl _ _) sr rfl
    cases x <;> exact this
  · cases h
theorem sop_notN : SOp g (fun x y H Q => y = .non ∧ Q (.bl (!decide (x = .non))) H) dNotN := by
  intro x y z st st' ρ H v w Q sr r1 r2 h q
  unfold dNotN at h
  split at h
  · cases h
    refine ⟨r2, ?_⟩
    rw [none_iff r1]
    have := q _ H ρ (Le.refl _ _) sr rfl
    cases x <;> exact this
  · cases h

/-! ### in, not in -/
/-- a text of one sign -/
def signOf (s : Str) : Option Nat := match s.cps.toList with
  | [c] => some c
  | _ => none
theorem signOf_eq {s : Str} {c : Nat} (h : signOf s = some c) : s = ⟨#[c]⟩ := by
  unfold signOf at h
  split at h
  · rename_i c' e
    cases h
    obtain ⟨a⟩ := s
    exact congrArg Str.mk (Array.toList_inj.mp e)
  · cases h
def inD (x y : D) (st : Store) : Option Bool := match y with
  | .str z => match x with
    | .str c => (signOf c).bind fun k => some (decide (k ∈ z.cps.toList))
    | _ => none
  | y => (pyOf st x).bind fun p => (pyOf st y).bind fun q => match q with
    | .list ds => some (ds.any fun z => PyData.eqv z p)
    | .tuple ds => some (ds.any fun z => PyData.eqv z p)
    | _ => none
def rInT (K : PySem.W.Frag) (neg : Bool) : R2 := fun x y H Q => ∃ d ds, Dp K H x d ∧ Dp K H y (.tuple ds) ∧ SeqAt.shaped d = true ∧ SeqAt.shaped (.tuple ds) = true ∧ Q (.bl (neg != ds.any fun z => PyData.eqv z d)) H
theorem op_inT (hu : X.A.units + 65 < cLine) : OpR X (compareOp .In) (rInT X.K false) := by
  intro pins s σ H x y v u Q I rx ry h
  obtain ⟨d, ds, hd, he, sd, se, q⟩ := h
  obtain ⟨as, a1⟩ := Dp.reads I _ _ _ hd rx
  obtain ⟨bs, a2⟩ := Dp.reads I _ _ _ he ry
  exact SeqAt.in_tuple_reads a2 a1 (SeqAt.canLay_of_shaped se) (SeqAt.canLay_of_shaped sd) (PyProof.Rows.room_in_shaped sd hu) ⟨.bl _, H, I, rfl, by simpa using q⟩
theorem op_notInT (hu : X.A.units + 65 < cLine) : OpR X (compareOp .NotIn) (rInT X.K true) := by
  intro pins s σ H x y v u Q I rx ry h
  obtain ⟨d, ds, hd, he, sd, se, q⟩ := h
  obtain ⟨as, a1⟩ := Dp.reads I _ _ _ hd rx
  obtain ⟨bs, a2⟩ := Dp.reads I _ _ _ he ry
  exact SeqAt.notIn_tuple_reads a2 a1 (SeqAt.canLay_of_shaped se) (SeqAt.canLay_of_shaped sd) (PyProof.Rows.room_in_shaped sd hu) ⟨.bl _, H, I, rfl, by simpa using q⟩
def rInAll (K : PySem.W.Frag) : R2 := fun x y H Q => (∃ (c : Nat) (z : Str), x = .str ⟨#[c]⟩ ∧ y = .str z ∧ Q (.bl (decide (c ∈ z.cps.toList))) H) ∨ rInD K x y H Q ∨ rInT K false x y H Q
def rNotInAll (K : PySem.W.Frag) : R2 := fun x y H Q => (∃ (c : Nat) (z : Str), x = .str ⟨#[c]⟩ ∧ y = .str z ∧ Q (.bl (!decide (c ∈ z.cps.toList))) H) ∨ rNotInD K x y H Q ∨ rInT K true x y H Q
theorem op_inAll (hu : X.A.units + 65 < cLine) : OpR X (compareOp .In) (rInAll X.K) := op_in_sign.or ((op_inD hu).or (op_inT hu))
theorem op_notInAll (hu : X.A.units + 65 < cLine) : OpR X (compareOp .NotIn) (rNotInAll X.K) := op_notIn_sign.or ((op_notInD hu).or (op_notInT hu))
def dIn (x y : D) (st : Store) : Option (D × Store) := (inD x y st).map fun b => (.bl b, st)
def dNotIn (x y : D) (st : Store) : Option (D × Store) := (inD x y st).map fun b => (.bl (!b), st)
theorem inD_cases {K : PySem.W.Frag} {st : Store} (hK : g.K = K) (sr : SR g ρ st H) {x y : D} {b : Bool} {v w : V} (r1 : Rp g ρ H x v) (r2 : Rp g ρ H y w) (h : inD x y st = some b) :
    (∃ (c : Nat) (z : Str), v = .str ⟨#[c]⟩ ∧ w = .str z ∧ b = decide (c ∈ z.cps.toList)) ∨
    (∃ (d : PyData) (ds : List PyData), Dp K H v d ∧ SeqAt.shaped d = true ∧ b = (ds.any fun z => PyData.eqv z d) ∧ ((Dp K H w (.list ds) ∧ SeqAt.shaped (.list ds) = true) ∨ (Dp K H w (.tuple ds) ∧ SeqAt.shaped (.tuple ds) = true))) := by
  subst hK
  have viaP : ((pyOf st x).bind fun p => (pyOf st y).bind fun q => match q with
    | .list ds => some (ds.any fun z => PyData.eqv z p)
    | .tuple ds => some (ds.any fun z => PyData.eqv z p)
    | _ => none) = some b → (∃ (d : PyData) (ds : List PyData), Dp g.K H v d ∧ SeqAt.shaped d = true ∧ b = (ds.any fun z => PyData.eqv z d) ∧ ((Dp g.K H w (.list ds) ∧ SeqAt.shaped (.list ds) = true) ∨ (Dp g.K H w (.tuple ds) ∧ SeqAt.shaped (.tuple ds) = true))) := fun h => by
    obtain ⟨p, q, h1, h2, h3⟩ := bind2 h
    obtain ⟨a1, a2⟩ := pyOf_ok sr r1 h1
    obtain ⟨b1, b2⟩ := pyOf_ok sr r2 h2
    cases q with
    | list ds => cases h3; exact ⟨p, ds, a1, a2, rfl, .inl ⟨b1, b2⟩⟩
    | tuple ds => cases h3; exact ⟨p, ds, a1, a2, rfl, .inr ⟨b1, b2⟩⟩
    | _ => cases h3
  cases y with
  | str z =>
    cases x with
    | str c =>
      simp only [inD] at h
      cases hs : signOf c with
      | none => rw [hs] at h; cases h
      | some k =>
        rw [hs] at h
        cases h
        exact .inl ⟨k, z, by rw [← signOf_eq hs]; exact r1, r2, rfl⟩
    | _ => cases h
  | _ => exact .inr (viaP h)
theorem sop_in (hK : X.K = g.K) : SOp g (rInAll X.K) dIn := by
  intro x y z st st' ρ H v w Q sr r1 r2 h q
  simp only [dIn, Option.map_eq_some_iff] at h
  obtain ⟨b, h1, h2⟩ := h
  cases h2
  have q' := q _ H ρ (Le.refl _ _) sr rfl
  rcases inD_cases hK.symm sr r1 r2 h1 with ⟨c, z, e1, e2, e3⟩ | ⟨d, ds, e1, e2, e3, ⟨e4, e5⟩ | ⟨e4, e5⟩⟩
  · exact .inl ⟨c, z, e1, e2, by rw [← e3]; exact q'⟩
  · exact .inr (.inl ⟨d, ds, e1, e4, e2, e5, by rw [← e3]; exact q'⟩)
  · exact .inr (.inr ⟨d, ds, e1, e4, e2, e5, by rw [← e3]; simpa using q'⟩)
theorem sop_notIn (hK : X.K = g.K) : SOp g (rNotInAll X.K) dNotIn := by
  intro x y z st st' ρ H v w Q sr r1 r2 h q
  simp only [dNotIn, Option.map_eq_some_iff] at h
  obtain ⟨b, h1, h2⟩ := h
  cases h2
  have q' := q _ H ρ (Le.refl _ _) sr rfl
  rcases inD_cases hK.symm sr r1 r2 h1 with ⟨c, z, e1, e2, e3⟩ | ⟨d, ds, e1, e2, e3, ⟨e4, e5⟩ | ⟨e4, e5⟩⟩
  · exact .inl ⟨c, z, e1, e2, by rw [← e3]; exact q'⟩
  · exact .inr (.inl ⟨d, ds, e1, e4, e2, e5, by rw [← e3]; exact q'⟩)
  · exact .inr (.inr ⟨d, ds, e1, e4, e2, e5, by rw [← e3]; simpa using q'⟩)

/-! ### items, slices -/
def dIx (x y : D) (st : Store) : Option (D × Store) := match y with
  | .int i => match x with
    | .str s => if small s.length then (atI s.cps.toList i).map fun c => (.str ⟨#[c]⟩, st) else none
    | x => (seqOf st x).bind fun xs => (atI xs i).map fun d => (d, st)
  | _ => none
theorem atI_rp {ds : List D} {vs : List V} {i : Int} {d : D} (r : Rps g ρ H ds vs) (h : atI ds i = some d) : ∃ v, atI vs i = some v ∧ Rp g ρ H d v := by
  unfold atI at h ⊢
  rw [← r.length]
  cases e : ixN ds.length i with
  | none => rw [e] at h; cases h
  | some j =>
    rw [e] at h
    exact r.get (show ds[j]? = some d from h)
theorem se_ix {a b : Expr} {f k : FE} {pos : Pos} (ha : SE g E X a f) (hb : SE g E X b k) (hs : PlainIx b) : SE g E X (.Subscript a b pos) (fOp dIx f k) := .mk fun hK tk σ st σV H ρ Q er sr h =>
  mx_of (pe_ix ix_seq pe_mx pe_mx hs) (bin_of (d := dIx) hK tk ha hb (fun x y z st st' ρ H v w Q sr r1 r2 h q => by
    cases y with
    | int i =>
      have via : ((seqOf st x).bind fun xs => (atI xs i).map fun d => (d, st)) = some (z, st') → rIx X.K v w H Q := fun h => by
        cases hx : seqOf st x with
        | none => rw [hx] at h; cases h
        | some xs =>
          rw [hx] at h
          simp only [Option.bind_some, Option.map_eq_some_iff] at h
          obtain ⟨d, h1, h2⟩ := h
          cases h2
          obtain ⟨p, vs, e, t, s⟩ := seqOf_ok hK sr r1 hx
          obtain ⟨u, h3, h4⟩ := atI_rp s h1
          rcases t with t | t
          · exact .inl ⟨p, vs, i, u, e, r2, t, h3, q _ H ρ (Le.refl _ _) sr h4⟩
          · exact .inr (.inl ⟨p, vs, i, u, e, r2, t, h3, q _ H ρ (Le.refl _ _) sr h4⟩)
      cases x with
      | str s =>
        simp only [dIx] at h
        by_cases hz : small s.length = true
        · rw [if_pos hz, Option.map_eq_some_iff] at h
          obtain ⟨c, h1, h2⟩ := h
          cases h2
          exact .inr (.inr ⟨s, i, c, r1, r2, small_le hz, h1, q _ H ρ (Le.refl _ _) sr rfl⟩)
        · rw [if_neg hz] at h; cases h
      | _ => exact via h
    | _ => cases h) er sr h)
abbrev FO := Env → Store → R (Option Int)
def fNoPart : FO := fun _ st => .ok none st
def fPart (f : FE) : FO := fun σ st => (f σ st).bind fun x st1 => match x with
  | .int i => .ok (some i) st1
  | _ => .stk
def OkO (g : G) (ρ : Pl) (H : Hp) (E : XK) (Q : Option Int → Hp → Prop) : R (Option Int) → Prop
  | .ok o st' => ∀ (H' : Hp) (ρ' : Pl), Le ρ H ρ' H' → SR g ρ' st' H' → Q o H'
  | .exc c st' => ∀ (H' : Hp) (ρ' : Pl), Le ρ H ρ' H' → SR g ρ' st' H' → E (.ref (g.ca c)) none H'
  | .stk => False
def mxO (X : Cx) (t : TO → Prop) : Prop := True
/-- a slice's bound: its reading, and what it asks -/
structure SO (g : G) (E : XK) (X : Cx) (e : Option Expr) (f : FO) : Prop where
  run : X.K = g.K → Tk X E → ∃ t, PO X e t ∧ ∀ (σ : Env) (st : Store) (σV : L2.St) (H : Hp) (ρ : Pl) (Q : Option Int → Hp → Prop), ER g ρ H σ σV → SR g ρ st H → OkO g ρ H E Q (f σ st) → t σV H Q
instance {g : G} {E : XK} {X : Cx} {e : Option Expr} {f : FO} : CoeFun (SO g E X e f) (fun _ => X.K = g.K → Tk X E → ∃ t, PO X e t ∧ ∀ (σ : Env) (st : Store) (σV : L2.St) (H : Hp) (ρ : Pl) (Q : Option Int → Hp → Prop), ER g ρ H σ σV → SR g ρ st H → OkO g ρ H E Q (f σ st) → t σV H Q) := ⟨SO.run⟩
theorem so_none : SO g E X none fNoPart := .mk fun hK tk => ⟨_, po_none, fun σ st σV H ρ Q er sr h => h H ρ (Le.refl _ _) sr⟩
theorem so_some {e : Expr} {f : FE} (he : SE g E X e f) : SO g E X (some e) (fPart f) := .mk fun hK tk => ⟨_, po_some (pe_mx (e := e)), fun σ st σV H ρ Q er sr h => he hK tk σ st σV H ρ _ er sr (by
  unfold fPart at h
  cases e1 : f σ st with
  | ok d st' =>
    rw [e1] at h
    exact fun v H' ρ' l s r => by
      cases d with
      | int i => exact ⟨i, r, h H' ρ' l s⟩
      | _ => exact h.elim
  | exc c st' => rw [e1] at h; exact h
  | stk => rw [e1] at h; exact h)⟩
def dCut (x : D) (lo hi : Option Int) (st : Store) : Option (D × Store) := match x with
  | .str s => if small s.length then some (.str (cutS s lo hi), st) else none
  | .tup xs => some (.tup ((xs.drop (HT.sIx xs.length 0 lo)).take (HT.sIx xs.length xs.length hi - HT.sIx xs.length 0 lo)), st)
  | x => (listOf st x).map fun xs => (.lst ((xs.drop (HT.sIx xs.length 0 lo)).take (HT.sIx xs.length xs.length hi - HT.sIx xs.length 0 lo)), st)
def fSlice (f : FE) (l u : FO) : FE := fun σ st => (f σ st).bind fun x st1 => (l σ st1).bind fun lo st2 => (u σ st2).bind fun hi st3 => R.of (dCut x lo hi st3)
theorem cut_rp {ds : List D} {vs : List V} (r : Rps g ρ H ds vs) (lo hi : Option Int) : Rps g ρ H ((ds.drop (HT.sIx ds.length 0 lo)).take (HT.sIx ds.length ds.length hi - HT.sIx ds.length 0 lo)) (cutV vs lo hi) := by
  unfold cutV
  rw [← r.length]
  exact (r.drop _).take _
theorem Ok1.bindO {E : XK} {r : R (Option Int)} {k : Option Int → Store → R D} {Q : VK} {Q' : Option Int → Hp → Prop} (h : Ok1 g ρ H E Q (r.bind k)) (f : ∀ d st' (H' : Hp) (ρ' : Pl), Le ρ H ρ' H' → SR g ρ' st' H' → Ok1 g ρ' H' E Q (k d st') → Q' d H') : OkO g ρ H E Q' r := by
  cases r with
  | ok d st' => exact fun H' ρ' l s => f d st' H' ρ' l s (Ok1.mono l h)
  | exc c st' => exact h
  | stk => exact h
theorem sl_listR {X : Cx} : SlR X (fun x lo hi H Q => ∃ a xs, x = .ref a ∧ SqL X.K H a xs ∧ ∀ p, H p = none → Q (.ref p) (upd H p (.lst (cutV xs lo hi)))) := sl_list
theorem se_slice {a : Expr} {lo hi : Option Expr} {f : FE} {l u : FO} {p2 pos : Pos} (ha : SE g E X a f) (hl : SO g E X lo l) (hu : SO g E X hi u) : SE g E X (.Subscript a (.Slice lo hi none p2) pos) (fSlice f l u) := .mk fun hK tk σ st σV H ρ Q er sr h => by
  obtain ⟨tl, pl, ql⟩ := hl hK tk
  obtain ⟨tu, pu, qu⟩ := hu hK tk
  refine mx_of (pe_slice (sl_str.or (sl_tupA.or sl_listR)) (pe_mx (e := a)) pl pu) (ha hK tk σ st σV H ρ _ er sr (Ok1.bind h fun x st1 v H1 ρ1 l1 s1 r1 h1 => ql σ st1 σV H1 ρ1 _ (er.mono l1) s1 (Ok1.bindO h1 fun lo st2 H2 ρ2 l2 s2 h2 => qu σ st2 σV H2 ρ2 _ ((er.mono l1).mono l2) s2 (Ok1.bindO h2 fun hi st3 H3 ρ3 l3 s3 h3 => ?_))))
  obtain ⟨z, st', e, q⟩ := h3.of
  have r3 := (r1.mono l2).mono l3
  have viaL : ((listOf st3 x).map fun xs => (D.lst ((xs.drop (HT.sIx xs.length 0 lo)).take (HT.sIx xs.length xs.length hi - HT.sIx xs.length 0 lo)), st3)) = some (z, st') → (∃ a xs, v = .ref a ∧ SqL X.K H3 a xs ∧ ∀ p, H3 p = none → Q (.ref p) (upd H3 p (.lst (cutV xs lo hi)))) := fun h => by
    rw [Option.map_eq_some_iff] at h
    obtain ⟨xs, h1, h2⟩ := h
    cases h2
    obtain ⟨p, vs, e, t, s⟩ := listOf_ok s3 r3 h1
    exact ⟨p, vs, e, .inl t, fun b hb => q _ _ ρ3 (s3.leLay hb) (s3.lay hb) (Rp.of_lst s3 hb (cut_rp s lo hi))⟩
  cases x with
  | str s =>
    obtain ⟨h4, h5⟩ := if_some (show (if small s.length = true then some (D.str (cutS s lo hi), st3) else none) = some (z, st') from e)
    cases h5
    exact .inl ⟨s, r3, small_le h4, q _ H3 ρ3 (Le.refl _ _) s3 rfl⟩
  | tup ds =>
    cases e
    obtain ⟨p, vs, e1, t, s⟩ := tup_ok hK r3
    refine .inr (.inl ⟨p, vs, e1, t, fun hw => ?_, fun _ b hb => q _ _ ρ3 (s3.leLay hb) (s3.lay hb) (Rp.of_tup s3 hb (cut_rp s lo hi))⟩)
    refine q _ H3 ρ3 (Le.refl _ _) s3 ?_
    rw [← s.length] at hw
    rw [hw.1, hw.2, List.drop_zero, Nat.sub_zero, List.take_length, ← e1]
    exact r3
  | _ => exact .inr (.inr (viaL e))
end Hw
/-! HwD: what is walked; for, while, list comprehensions. -/
namespace Hw
open PySem PySem.Spec PyProof.Rows L2
variable {g : G} {ρ ρ' ρ'' : Pl} {H H' H'' : Hp} {E : XK} {X : Cx}

/-! ### a thing that is being made -/
theorem lst_tbl {vs : List V} (ps : Array Value) : HO.lst vs ≠ .tbl ps := fun z => by cases z
abbrev Pl.hide (ρ : Pl) (p : Addr) : Pl := ⟨ρ.lk, p :: ρ.ex⟩
theorem ke_hide {p : Addr} {o : HO} (hp : H p = none) : Ke ρ H (ρ.hide p) (upd H p o) := ⟨fun _ _ h => h, fun a u n q h => by
  have ne : a ≠ p := fun e => by rcases h with h | ⟨b, h⟩ <;> rw [e, hp] at h <;> cases h
  exact ⟨⟨n.1, fun z => (List.mem_cons.mp z).elim ne n.2⟩, rd_ne ne h⟩⟩
theorem ke_show {p : Addr} : Ke (ρ.hide p) H ρ H := ⟨fun _ _ h => h, fun a u n q h => ⟨⟨n.1, fun z => n.2 (List.mem_cons_of_mem _ z)⟩, h⟩⟩
theorem ke_hid {p : Addr} {o : HO} (hp : p ∈ ρ.ex) : Ke ρ H ρ (upd H p o) := ⟨fun _ _ h => h, fun a u n q h => ⟨n, rd_ne (fun e => n.2 (by rw [e]; exact hp)) h⟩⟩
theorem SR.hide {st : Store} (s : SR g ρ st H) {p : Addr} {us : List V} (hp : H p = none) : SR g (ρ.hide p) st (upd H p (.lst us)) :=
  ⟨s.len, s.nd, fun a ha z => (List.mem_cons.mp ha).elim (fun e => s.notin hp (by rw [← e]; exact z)) fun h => s.hid a h z, fun a ha => (List.mem_cons.mp ha).elim (fun e => by rw [e]; exact Has.set lst_tbl) fun h => (s.hidT a h).new hp,
    fun n c h => by
      obtain ⟨a, e, q⟩ := s.cell n c h
      exact ⟨a, e, q.ke (ke_hide hp) (upd_ne fun z => s.notin hp (by rw [← z]; exact List.mem_of_getElem? e))⟩, Tabs_upd s.tabs hp⟩
theorem SR.unhide {st : Store} {p : Addr} (s : SR g (ρ.hide p) st H) : SR g ρ st H :=
  ⟨s.len, s.nd, fun a h => s.hid a (List.mem_cons_of_mem _ h), fun a h => s.hidT a (List.mem_cons_of_mem _ h), fun n c h => by
    obtain ⟨a, e, q⟩ := s.cell n c h
    exact ⟨a, e, q.ke ke_show rfl⟩, s.tabs⟩
theorem SR.writeHid {st : Store} (s : SR g ρ st H) {p : Addr} {us : List V} {u : HO} (hx : p ∈ ρ.ex) (hp : H p = some u) (n1 : ∀ ps, u ≠ .tbl ps) (n2 : ∀ c q, u ≠ LamX.CodeO c q) : SR g ρ st (upd H p (.lst us)) :=
  ⟨s.len, s.nd, s.hid, fun a h => (s.hidT a h).ov lst_tbl, fun n c h => by
    obtain ⟨a, e, q⟩ := s.cell n c h
    exact ⟨a, e, q.ke (ke_hid hx) (upd_ne fun z => s.hid p hx (by rw [← z]; exact List.mem_of_getElem? e))⟩, Tabs_write s.tabs hp n1 n2⟩
theorem lst_code {vs : List V} (c : Addr) (q : Str) : HO.lst vs ≠ LamX.CodeO c q := fun z => by unfold LamX.CodeO at z; cases z

/-! ### what is walked -/
/-- the walk gives the items, whatever happens meanwhile -/
structure ItOk (g : G) (ρ : Pl) (H : Hp) (J : It) (items : List D) : Prop where
  goes : ∀ (i : Nat) (ρ1 : Pl) (H1 : Hp), i < items.length → Le ρ H ρ1 H1 → J.go i H1
  stops : ∀ (ρ1 : Pl) (H1 : Hp), Le ρ H ρ1 H1 → J.stop items.length H1
  yields : ∀ (i : Nat) (ρ1 κ : Pl) (H1 : Hp) (st : Store) (x : V) (H2 : Hp), i < items.length → Le ρ H ρ1 H1 → Ke ρ H κ H1 → SR g κ st H1 → J.yld i H1 x H2 → ∃ d, items[i]? = some d ∧ Le κ H1 κ H2 ∧ SR g κ st H2 ∧ Rp g κ H2 d x
abbrev FI := Env → Store → R (List D)
def OkI (g : G) (ρ : Pl) (H : Hp) (E : XK) (Q : It → Hp → Prop) : R (List D) → Prop
  | .ok ds st' => ∀ (J : It) (H' : Hp) (ρ' : Pl), Le ρ H ρ' H' → SR g ρ' st' H' → ItOk g ρ' H' J ds → Q J H'
  | .exc c st' => ∀ (H' : Hp) (ρ' : Pl), Le ρ H ρ' H' → SR g ρ' st' H' → E (.ref (g.ca c)) none H'
  | .stk => False
structure SI (g : G) (E : XK) (X : Cx) (tg e : Expr) (f : FI) : Prop where
  run : X.K = g.K → Tk X E → ∃ wi, PI X tg e wi ∧ ∀ (σ : Env) (st : Store) (σV : L2.St) (H : Hp) (ρ : Pl) (Q : It → Hp → Prop), ER g ρ H σ σV → SR g ρ st H → OkI g ρ H E Q (f σ st) → wi σV H Q
instance {g : G} {E : XK} {X : Cx} {tg e : Expr} {f : FI} : CoeFun (SI g E X tg e f) (fun _ => X.K = g.K → Tk X E → ∃ wi, PI X tg e wi ∧ ∀ (σ : Env) (st : Store) (σV : L2.St) (H : Hp) (ρ : Pl) (Q : It → Hp → Prop), ER g ρ H σ σV → SR g ρ st H → OkI g ρ H E Q (f σ st) → wi σV H Q) := ⟨SI.run⟩
theorem PI.or {tg e : Expr} {w w' : TI} (h : PI X tg e w) (h' : PI X tg e w') : PI X tg e (fun σ H R => w σ H R ∨ w' σ H R) := ⟨fun pins s σ H R I q => q.elim (h.run pins s σ H R I) (h'.run pins s σ H R I)⟩
theorem OkI.bind {r : R D} {k : D → Store → R (List D)} {Q : It → Hp → Prop} {Q' : VK} (h : OkI g ρ H E Q (r.bind k)) (f : ∀ d st' (v : V) (H' : Hp) (ρ' : Pl), r = .ok d st' → Le ρ H ρ' H' → SR g ρ' st' H' → Rp g ρ' H' d v → OkI g ρ' H' E Q (k d st') → Q' v H') : Ok1 g ρ H E Q' r := by
  cases r with
  | ok d st' =>
    refine fun v H' ρ' l s q => f d st' v H' ρ' rfl l s q ?_
    have h : OkI g ρ H E Q (k d st') := h
    cases e : k d st' with
    | ok ds st2 => rw [e] at h; exact fun J H2 ρ2 l2 s2 i => h J H2 ρ2 (l.trans l2) s2 i
    | exc c st2 => rw [e] at h; exact fun H2 ρ2 l2 s2 => h H2 ρ2 (l.trans l2) s2
    | stk => rw [e] at h; exact h
  | exc c st' => exact h
  | stk => exact h
theorem OkI.bindA {r : R (List D)} {k : List D → Store → R (List D)} {Q : It → Hp → Prop} {Q' : List V → Hp → Prop} (h : OkI g ρ H E Q (r.bind k)) (f : ∀ d st' (v : List V) (H' : Hp) (ρ' : Pl), Le ρ H ρ' H' → SR g ρ' st' H' → Rps g ρ' H' d v → OkI g ρ' H' E Q (k d st') → Q' v H') : OkA g ρ H E Q' r := by
  cases r with
  | ok d st' =>
    refine fun v H' ρ' l s q => f d st' v H' ρ' l s q ?_
    have h : OkI g ρ H E Q (k d st') := h
    cases e : k d st' with
    | ok ds st2 => rw [e] at h; exact fun J H2 ρ2 l2 s2 i => h J H2 ρ2 (l.trans l2) s2 i
    | exc c st2 => rw [e] at h; exact fun H2 ρ2 l2 s2 => h H2 ρ2 (l.trans l2) s2
    | stk => rw [e] at h; exact h
  | exc c st' => exact h
  | stk => exact h
/-- the items of what is walked: a tuple's, a list's that nobody changes, a text's signs -/
def itemsOf : D → Option (List D)
  | .tup xs => some xs
  | .lst xs => some xs
  | .str s => some (s.cps.toList.map fun c => .str ⟨#[c]⟩)
  | _ => none
def fIter (f : FE) : FI := fun σ st => (f σ st).bind fun d st1 => R.of ((itemsOf d).map fun xs => (xs, st1))
theorem it_list {a : Addr} {vs : List V} {ds : List D} (n : a ∉ ρ.lk) (h : Rd H a (.lst vs)) (r : Rps g ρ H ds vs) : ItOk g ρ H (Itl X.K a) ds where
  goes := fun i ρ1 H1 hi l => ⟨vs, vs[i]'(by rw [← r.length]; exact hi), .inl (l.keep a _ h n rfl), by simp [← r.length, hi]⟩
  stops := fun ρ1 H1 l => ⟨vs, .inl (l.keep a _ h n rfl), by rw [r.length]; exact Nat.le_refl _⟩
  yields := fun i ρ1 κ H1 st x H2 hi l k s y => by
    obtain ⟨e, y⟩ := y
    subst e
    have hx := y vs (.inl (l.keep a _ h n rfl))
    obtain ⟨d, h1, h2⟩ := (r.ke k).getV hx
    exact ⟨d, h1, Le.refl _ _, s, h2⟩
theorem it_tup {a : Addr} {vs : List V} {ds : List D} (h : TupAt g ρ H a vs) (r : Rps g ρ H ds vs) : ItOk g ρ H (Itt g.K a) ds := by
  have st : ∀ (ρ1 : Pl) (H1 : Hp), Le ρ H ρ1 H1 → SqT g.K H1 a vs := fun ρ1 H1 l => h.imp (fun z => l.keep a _ z.2 z.1.1 rfl) id
  exact ⟨fun i ρ1 H1 hi l => ⟨vs, vs[i]'(by rw [← r.length]; exact hi), st ρ1 H1 l, by simp [← r.length, hi]⟩, fun ρ1 H1 l => ⟨vs, st ρ1 H1 l, by rw [r.length]; exact Nat.le_refl _⟩, fun i ρ1 κ H1 sto x H2 hi l k s y => by
    obtain ⟨e, y⟩ := y
    subst e
    obtain ⟨d, h1, h2⟩ := (r.ke k).getV (y vs (st ρ1 _ l))
    exact ⟨d, h1, Le.refl _ _, s, h2⟩⟩
theorem it_str {s : Str} : ItOk g ρ H (Its s) (s.cps.toList.map fun c => .str ⟨#[c]⟩) where
  goes := fun i ρ1 H1 hi l => by
    show i < s.cps.size
    simpa using hi
  stops := fun ρ1 H1 l => by show s.cps.size ≤ _; simp
  yields := fun i ρ1 κ H1 st x H2 hi l k s' y => by
    obtain ⟨e, c, h1, h2⟩ := y
    subst e h2
    refine ⟨.str ⟨#[c]⟩, ?_, Le.refl _ _, s', rfl⟩
    rw [List.getElem?_map, Array.getElem?_toList, h1] <;> rfl
theorem si_iter {tg e : Expr} {f : FE} (he : SE g E X e f) : SI g E X tg e (fIter f) := .mk fun hK tk => by
  refine ⟨_, PI.or (pi_tup (pe_mx (e := e))) (PI.or (pi_list (pe_mx (e := e))) (pi_str (pe_mx (e := e)))), fun σ st σV H ρ Q er sr h => ?_⟩
  cases e1 : f σ st with
  | ok d st1 =>
    have h' : OkI g ρ H E Q (R.of ((itemsOf d).map fun xs => (xs, st1))) := by
      unfold fIter at h
      rw [e1] at h
      exact h
    cases d with
    | tup xs =>
      refine .inl (he hK tk σ st σV H ρ _ er sr ?_)
      rw [e1]
      intro v H1 ρ1 l1 s1 r1
      obtain ⟨a, vs, e2, t, r⟩ := r1
      refine ⟨a, e2, ⟨vs, ?_⟩, ?_⟩
      · rw [hK]; exact t.imp (fun z => z.2) id
      · rw [hK]; exact h' _ H1 ρ1 l1 s1 (it_tup t r)
    | lst xs =>
      refine .inr (.inl (he hK tk σ st σV H ρ _ er sr ?_))
      rw [e1]
      intro v H1 ρ1 l1 s1 r1
      obtain ⟨a, vs, e2, t, r⟩ := r1
      exact ⟨a, e2, ⟨vs, .inl t.2⟩, h' _ H1 ρ1 l1 s1 (it_list t.1.1 t.2 r)⟩
    | str s =>
      refine .inr (.inr (he hK tk σ st σV H ρ _ er sr ?_))
      rw [e1]
      intro v H1 ρ1 l1 s1 r1
      exact ⟨s, r1, h' _ H1 ρ1 l1 s1 it_str⟩
    | _ => exact h'.elim
  | exc c st1 =>
    have h' : OkI g ρ H E Q (.exc c st1) := by
      unfold fIter at h
      rw [e1] at h
      exact h
    refine .inl (he hK tk σ st σV H ρ _ er sr ?_)
    rw [e1]
    exact h'
  | stk =>
    unfold fIter at h
    rw [e1] at h
    exact h.elim
/-- range(n), range(a, b) -/
def rangeD (lo hi : Int) : List D := (List.range (hi - lo).toNat).map fun i => D.int (lo + (i : Nat))
def rngOk (i : Int) : Bool := decide (-100000 ≤ i ∧ i ≤ 100000)
def fRange1 (fa : FA) : FI := fun σ st => (fa σ st).bind fun ds st1 => match ds with
  | [.int j] => if rngOk j then .ok (rangeD 0 j) st1 else .stk
  | _ => .stk
def fRange2 (fa : FA) : FI := fun σ st => (fa σ st).bind fun ds st1 => match ds with
  | [.int i, .int j] => if rngOk i && rngOk j then .ok (rangeD i j) st1 else .stk
  | _ => .stk
theorem it_range {lo : Int} {n : Nat} : ItOk g ρ H (Itr lo n) ((List.range n).map fun i => D.int (lo + (i : Nat))) where
  goes := fun i ρ1 H1 hi l => by
    show i < n
    simpa using hi
  stops := fun ρ1 H1 l => by show n ≤ _; simp
  yields := fun i ρ1 κ H1 st x H2 hi l k s y => by
    obtain ⟨e, e2⟩ := y
    subst e e2
    have hi' : i < n := by simpa using hi
    exact ⟨.int (lo + (i : Nat)), by simp [hi'], Le.refl _ _, s, rfl⟩
theorem rngOk_lt {j : Int} (h : rngOk j = true) : -(2 ^ 62) ≤ j ∧ j < 2 ^ 62 := by
  have := of_decide_eq_true h
  omega
theorem si_range1 {tg a : Expr} {fa : FA} {p pos : Pos} (hg : Gl X "range") (hm : X.mg "range" = none) (ha : SA g E X [a] fa) (hs : starEach [a] X.env = [(false, eval a X.env)] := by rfl) : SI g E X tg (.Call (.Name "range" p) [a] [] pos) (fRange1 fa) := .mk fun hK tk => by
  refine ⟨_, pi_range1 hg hm (pa_mx (es := [a])) hs, fun σ st σV H ρ Q er sr h => ha hK tk σ st σV H ρ _ er sr (OkI.bindA h fun ds st1 vs H1 ρ1 l1 s1 r1 h1 => ?_)⟩
  split at h1
  · rename_i j
    obtain ⟨v, r, e, q, z⟩ := r1
    have z' : r = [] := z
    have q' : v = V.int j := q
    subst z' q' e
    by_cases hj : rngOk j = true
    · rw [if_pos hj] at h1
      refine ⟨j, rfl, (rngOk_lt hj).1, (rngOk_lt hj).2, h1 _ H1 ρ1 (Le.refl _ _) s1 ?_⟩
      unfold rangeD
      rw [Int.sub_zero]
      exact it_range
    · rw [if_neg hj] at h1; exact h1.elim
  · exact h1.elim
theorem si_range2 {tg a b : Expr} {fa : FA} {p pos : Pos} (hg : Gl X "range") (hm : X.mg "range" = none) (ha : SA g E X [a, b] fa) (hs : starEach [a, b] X.env = [(false, eval a X.env), (false, eval b X.env)] := by rfl) (hs2 : starEach [b] X.env = [(false, eval b X.env)] := by rfl) :
    SI g E X tg (.Call (.Name "range" p) [a, b] [] pos) (fRange2 fa) := .mk fun hK tk => by
  refine ⟨_, pi_range2 hg hm (pa_mx (es := [a, b])) hs hs2, fun σ st σV H ρ Q er sr h => ha hK tk σ st σV H ρ _ er sr (OkI.bindA h fun ds st1 vs H1 ρ1 l1 s1 r1 h1 => ?_)⟩
  split at h1
  · rename_i i j
    obtain ⟨v, r, e, q, w, r2, e2, q2, z⟩ := r1
    have z' : r2 = [] := z
    have q' : v = V.int i := q
    have q2' : w = V.int j := q2
    subst z' q' q2' e2 e
    by_cases hj : (rngOk i && rngOk j) = true
    · rw [if_pos hj] at h1
      simp only [Bool.and_eq_true] at hj
      exact ⟨i, j, rfl, ⟨(rngOk_lt hj.1).1, (rngOk_lt hj.1).2, (rngOk_lt hj.2).1, (rngOk_lt hj.2).2⟩, h1 _ H1 ρ1 (Le.refl _ _) s1 it_range⟩
    · rw [if_neg hj] at h1; exact h1.elim
  · exact h1.elim

/-! ### targets -/
/-- a name; a tuple of names -/
inductive Tg where
  | nm (i : Nat) | tp (is : List Nat)
def gSets : List Nat → List D → Env → Env
  | i :: is, d :: ds, σ => gSets is ds (σ.set i (some d))
  | _, _, σ => σ
def Tg.d : Tg → D → Env → Option Env
  | .nm i, d, σ => some (σ.set i (some d))
  | .tp is, .tup ds, σ => if decide (ds.length = is.length) then some (gSets is ds σ) else none
  | .tp _, _, _ => none
def Tg.ix : Tg → List Nat
  | .nm i => [i]
  | .tp is => is
def gNames : List Nat → TGs
  | [] => gNil
  | i :: is => gCons (gName i) (gNames is)
def Tg.t (K : PySem.W.Frag) : Tg → TG
  | .nm i => gName i
  | .tp is => gTup K is.length (gNames is)
theorem wipe_set (σ : L2.St) (i : Nat) (x : Option V) : ∀ vs : List Nat, i ∈ vs → wipe (σ.set i x) vs = wipe σ vs
  | [], h => by cases h
  | v :: vs, h => by
    show (wipe (σ.set i x) vs).set v none = (wipe σ vs).set v none
    by_cases hv : i ∈ vs
    · rw [wipe_set σ i x vs hv]
    · have e : i = v := (List.mem_cons.mp h).resolve_right hv
      subst e
      have q : ∀ ws : List Nat, i ∉ ws → wipe (σ.set i x) ws = (wipe σ ws).set i x := by
        intro ws
        induction ws with
        | nil => intro _; rfl
        | cons w ws ih =>
          intro hw
          show (wipe (σ.set i x) ws).set w none = ((wipe σ ws).set w none).set i x
          rw [ih (fun z => hw (List.mem_cons_of_mem _ z)), List.set_comm _ _ (fun z => hw (by rw [z]; exact List.mem_cons_self))]
      rw [q vs hv, List.set_set]
theorem gSets_ok : ∀ (is : List Nat) (ds : List D) (vs : List V) (σ : Env) (σV : L2.St) (Q : L2.St → Hp → Prop), ER g ρ H σ σV → Rps g ρ H ds vs → ds.length = is.length →
    (∀ σV', ER g ρ H (gSets is ds σ) σV' → (∀ ws, (∀ i ∈ is, i ∈ ws) → wipe σV' ws = wipe σV ws) → Q σV' H) → gNames is vs σV H Q
  | [], ds, vs, σ, σV, Q, er, r, e, q => by
    have e' : ds = [] := List.length_eq_zero_iff.mp e
    subst e'
    exact ⟨r, q σV er fun _ _ => rfl⟩
  | i :: is, [], vs, σ, σV, Q, er, r, e, q => by cases e
  | i :: is, d :: ds, vs, σ, σV, Q, er, r, e, q => by
    obtain ⟨v, r', e1, h1, h2⟩ := r
    refine ⟨v, r', e1, gSets_ok is ds r' _ _ Q (er.set i h1) h2 (by simpa using e) fun σV' er' hw => q σV' er' fun ws hws => ?_⟩
    rw [hw ws fun j hj => hws j (List.mem_cons_of_mem _ hj), wipe_set _ _ _ _ (hws i List.mem_cons_self)]
theorem Tg.ok (hK : X.K = g.K) (T : Tg) {d : D} {v : V} {σ σ' : Env} {σV : L2.St} {Q : L2.St → Hp → Prop} (er : ER g ρ H σ σV) (r : Rp g ρ H d v) (e : T.d d σ = some σ')
    (q : ∀ σV', ER g ρ H σ' σV' → (∀ ws, (∀ i ∈ T.ix, i ∈ ws) → wipe σV' ws = wipe σV ws) → Q σV' H) : T.t X.K v σV H Q := by
  cases T with
  | nm i =>
    cases e
    exact q _ (er.set i r) fun ws hw => wipe_set _ _ _ _ (hw i List.mem_cons_self)
  | tp is =>
    cases d with
    | tup ds =>
      obtain ⟨hl, e2⟩ := if_some (show (if decide (ds.length = is.length) = true then some (gSets is ds σ) else none) = some σ' from e)
      have hl := of_decide_eq_true hl
      subst e2
      obtain ⟨a, vs, e3, t1, s1⟩ := tup_ok hK r
      exact ⟨a, vs, e3, t1, by rw [← s1.length, hl], gSets_ok is ds vs σ σV Q er s1 hl q⟩
    | _ => cases e
abbrev SG (X : Cx) (tg : Expr) (T : Tg) : Prop := PG X tg (T.t X.K)
theorem sg_name {i : Nat} {x : Str} {pos : Pos} (hN : X.N.Nodup) (hi : X.N[i]? = some x) (hx : Loc X.env.scope x) (hf : X.fn x = true ∨ X.env.scope.names.lookup x = some .local := by first | exact .inl rfl | exact .inr rfl | assumption) : SG X (.Name x pos) (.nm i) := pg_name hN hi hx hf
abbrev SGs (X : Cx) (ts : List Expr) (is : List Nat) : Prop := PGs X ts (gNames is)
theorem sgs_nil : SGs X [] [] := pgs_nil
theorem sgs_cons {i : Nat} {is : List Nat} {x : Str} {pos : Pos} {ts : List Expr} (hN : X.N.Nodup) (hi : X.N[i]? = some x) (hx : Loc X.env.scope x) (hr : SGs X ts is) (hf : X.fn x = true ∨ X.env.scope.names.lookup x = some .local := by first | exact .inl rfl | exact .inr rfl | assumption)
    (hs : (assignEach (.Name x pos :: ts) X.env).map (·.2) = assign (.Name x pos) X.env :: (assignEach ts X.env).map (·.2) := by rfl) : SGs X (.Name x pos :: ts) (i :: is) := pgs_cons (pg_name hN hi hx hf) hr hs
theorem sg_tup {es : List Expr} {is : List Nat} {k : Nat} {pos : Pos} (hc : X.calm = true) (h : SGs X es is) (hn : (assignEach es X.env).length = is.length := by rfl) (hst : (assignEach es X.env).findIdx? (·.1) = none := by rfl) : SG X (.Tuple es k pos) (.tp is) := pg_tup hc h hn hst

/-! ### for -/
def loopF (T : Tg) (b : FS) : List D → Env → Store → F
  | [], σ, st => .nx σ st
  | x :: xs, σ, st => match T.d x σ with
    | none => .stk
    | some σ1 => match b σ1 st with
      | .nx σ2 st2 => loopF T b xs σ2 st2
      | .ct σ2 st2 => loopF T b xs σ2 st2
      | .bk σ2 st2 => .nx σ2 st2
      | r => r
def sFor (fi : FI) (T : Tg) (b : FS) : FS := fun σ st => (fi σ st).thn fun xs st1 => loopF T b xs σ st1
theorem OkS.thnI {r : R (List D)} {k : List D → Store → F} {Z : Ends} {Q' : It → Hp → Prop} (h : OkS g ρ H E Z (r.thn k)) (f : ∀ ds st' (J : It) (H' : Hp) (ρ' : Pl), Le ρ H ρ' H' → SR g ρ' st' H' → ItOk g ρ' H' J ds → OkS g ρ' H' E Z (k ds st') → Q' J H') : OkI g ρ H E Q' r := by
  cases r with
  | ok d st' => exact fun v H' ρ' l s q => f d st' v H' ρ' l s q (OkS.mono l h)
  | exc c st' => exact h
  | stk => exact h
theorem ss_for {tg iter : Expr} {body : List Stmt} {fi : FI} {T : Tg} {b : FS} {pos : Pos} (hp : PassesOwn (model X.prog X.w) X.A X.env X.xe) (hc : X.calm = true) (hi : SI g E X tg iter fi) (hg : SG X tg T) (hb : SB g E X body b)
    (hs : ∀ x, foldedSetIterable iter X.env x = pure x := by intro _; rfl) : SS g E X (.For tg iter body [] pos) (sFor fi T b) := .mk fun hK tk σ st σV H ρ Z er sr h => by
  obtain ⟨wi, pi, qi⟩ := hi hK tk
  refine ms_of (ps_for hp hc pi hg (pss_mx (sts := body)) hs) (qi σ st σV H ρ _ er sr (OkS.thnI h fun items st1 J H1 ρ1 l1 s1 it h1 => ?_))
  refine ⟨fun i m σV2 H2 => m = items.length - i ∧ i ≤ items.length ∧ ∃ (σ2 : Env) (st2 : Store) (ρ2 : Pl), Le ρ1 H1 ρ2 H2 ∧ SR g ρ2 st2 H2 ∧ ER g ρ2 H2 σ2 σV2 ∧ OkS g ρ2 H2 E Z (loopF T b (items.drop i) σ2 st2), ⟨items.length, by simp, Nat.zero_le _, σ, st1, ρ1, Le.refl _ _, s1, er.mono l1, h1⟩, ?_⟩
  rintro i m σV2 H2 ⟨hm, hle, σ2, st2, ρ2, l2, s2, er2, h2⟩
  subst hm
  by_cases hlt : i < items.length
  · refine .inr ⟨it.goes i ρ2 H2 hlt l2, fun σV3 H3 => ∃ (σ3 : Env) (st3 : Store) (ρ3 : Pl), Le ρ1 H1 ρ3 H3 ∧ SR g ρ3 st3 H3 ∧ ER g ρ3 H3 σ3 σV3 ∧ OkS g ρ3 H3 E Z (loopF T b (items.drop (i + 1)) σ3 st3), fun σV3 H3 q => ⟨items.length - (i + 1), by omega, rfl, hlt, q⟩, fun x H3 y => ?_⟩
    obtain ⟨d, hd, l3, s3, r3⟩ := it.yields i ρ2 ρ2 H2 st2 x H3 hlt l2 l2.ke s2 y
    have ed : items.drop i = d :: items.drop (i + 1) := by
      rw [List.drop_eq_getElem_cons hlt]
      have := List.getElem?_eq_getElem hlt
      rw [this] at hd
      rw [Option.some.inj hd]
    rw [ed] at h2
    cases hgt : T.d d σ2 with
    | none =>
      simp only [loopF, hgt] at h2
      exact h2.elim
    | some σ3 =>
      refine T.ok hK (er2.mono l3) r3 hgt fun σV3 er3 _ => ?_
      refine hb hK tk σ3 st2 σV3 H3 ρ2 _ er3 s3 ?_
      have h3 := OkS.mono l3 h2
      simp only [loopF, hgt] at h3
      cases hbd : b σ3 st2 with
      | nx σ4 st4 =>
        rw [hbd] at h3
        exact fun σV4 H4 ρ4 l4 s4 er4 => ⟨σ4, st4, ρ4, (l2.trans l3).trans l4, s4, er4, OkS.mono l4 h3⟩
      | ct σ4 st4 =>
        rw [hbd] at h3
        exact fun σV4 H4 ρ4 l4 s4 er4 => ⟨σ4, st4, ρ4, (l2.trans l3).trans l4, s4, er4, OkS.mono l4 h3⟩
      | bk σ4 st4 => rw [hbd] at h3; exact h3
      | rt d4 st4 => rw [hbd] at h3; exact h3
      | exc c4 st4 => rw [hbd] at h3; exact h3
      | stk => rw [hbd] at h3; exact h3
  · have e : i = items.length := by omega
    subst e
    rw [List.drop_length] at h2
    exact .inl ⟨it.stops ρ2 H2 l2, h2 σV2 H2 ρ2 (Le.refl _ _) s2 er2⟩

/-! ### while -/
def loopW (t : FT) (b : FS) : Nat → Env → Store → F
  | 0, _, _ => .stk
  | n + 1, σ, st => (t σ st).thn fun c st1 => if c then match b σ st1 with
      | .nx σ2 st2 => loopW t b n σ2 st2
      | .ct σ2 st2 => loopW t b n σ2 st2
      | .bk σ2 st2 => .nx σ2 st2
      | r => r
    else .nx σ st1
def sWhile (n : Nat) (t : FT) (b : FS) : FS := fun σ st => loopW t b n σ st
theorem ss_while {c : Expr} {body : List Stmt} {n : Nat} {t : FT} {b : FS} {pos : Pos} (hp : PassesOwn (model X.prog X.w) X.A X.env X.xe) (hc : ST g E X c t) (hb : SB g E X body b) : SS g E X (.While c body [] pos) (sWhile n t b) := .mk fun hK tk σ st σV H ρ Z er sr h => by
  refine ms_of (ps_while hp (pt_mx (e := c)) (pss_mx (sts := body))) ?_
  refine ⟨fun m σV2 H2 => ∃ (σ2 : Env) (st2 : Store) (ρ2 : Pl), Le ρ H ρ2 H2 ∧ SR g ρ2 st2 H2 ∧ ER g ρ2 H2 σ2 σV2 ∧ OkS g ρ2 H2 E Z (loopW t b m σ2 st2), ⟨n, σ, st, ρ, Le.refl _ _, sr, er, h⟩, ?_⟩
  rintro m σV2 H2 ⟨σ2, st2, ρ2, l2, s2, er2, h2⟩
  cases m with
  | zero => exact h2.elim
  | succ m =>
    refine hc hK tk σ2 st2 σV2 H2 ρ2 _ er2 s2 (OkS.thnT h2 fun k st3 H3 ρ3 l3 s3 h3 => ?_)
    cases k with
    | false => exact h3 σV2 H3 ρ3 (Le.refl _ _) s3 (er2.mono l3)
    | true =>
      refine ⟨fun σV4 H4 => ∃ (σ4 : Env) (st4 : Store) (ρ4 : Pl), Le ρ H ρ4 H4 ∧ SR g ρ4 st4 H4 ∧ ER g ρ4 H4 σ4 σV4 ∧ OkS g ρ4 H4 E Z (loopW t b m σ4 st4), fun σV4 H4 q => ⟨m, Nat.lt_succ_self m, q⟩, ?_⟩
      refine hb hK tk σ2 st3 σV2 H3 ρ3 _ (er2.mono l3) s3 ?_
      cases hbd : b σ2 st3 with
      | nx σ4 st4 =>
        simp only [hbd] at h3
        exact fun σV4 H4 ρ4 l4 s4 er4 => ⟨σ4, st4, ρ4, (l2.trans l3).trans l4, s4, er4, OkS.mono l4 h3⟩
      | ct σ4 st4 =>
        simp only [hbd] at h3
        exact fun σV4 H4 ρ4 l4 s4 er4 => ⟨σ4, st4, ρ4, (l2.trans l3).trans l4, s4, er4, OkS.mono l4 h3⟩
      | bk σ4 st4 => simp only [hbd] at h3; exact h3
      | rt d4 st4 => simp only [hbd] at h3; exact h3
      | exc c4 st4 => simp only [hbd] at h3; exact h3
      | stk => simp only [hbd] at h3; exact h3.elim

/-! ### list comprehensions -/
def wipeD (σ : Env) : List Nat → Env
  | [] => σ
  | v :: vs => (wipeD σ vs).set v none
theorem ER.wipe {σ : Env} {σV : L2.St} (e : ER g ρ H σ σV) : ∀ vs : List Nat, ER g ρ H (wipeD σ vs) (L2.wipe σV vs)
  | [] => e
  | v :: vs => by
    have ih := ER.wipe e vs
    refine ⟨by show ((wipeD σ vs).set v none).length = ((L2.wipe σV vs).set v none).length; rw [List.length_set, List.length_set, ih.len], fun j d h => ?_⟩
    have h : ((wipeD σ vs).set v none)[j]? = some (some d) := h
    show ∃ w, ((L2.wipe σV vs).set v none)[j]? = some (some w) ∧ _
    by_cases hj : v = j
    · subst hj
      by_cases hl : v < (wipeD σ vs).length
      · rw [List.getElem?_set_self hl] at h; cases h
      · rw [List.getElem?_eq_none (by rw [List.length_set]; omega)] at h; cases h
    · rw [List.getElem?_set_ne hj] at h ⊢
      exact ih.at_ j d h
theorem wipe_wipe (σ : L2.St) (vs : List Nat) : wipe (wipe σ vs) vs = wipe σ vs := by
  have q : ∀ (ws : List Nat), (∀ i ∈ ws, i ∈ vs) → wipe (wipe σ ws) vs = wipe σ vs := by
    intro ws
    induction ws with
    | nil => intro _; rfl
    | cons w ws ih =>
      intro h
      show wipe ((wipe σ ws).set w none) vs = wipe σ vs
      rw [wipe_set _ _ _ _ (h w List.mem_cons_self)]
      exact ih fun i hi => h i (List.mem_cons_of_mem _ hi)
  exact q vs fun _ h => h
/-- within a comprehension nothing may be raised -/
def R.nox {α : Type} : R α → R α
  | .exc _ _ => .stk
  | r => r
def loopC (T : Tg) (t : FT) (f : FE) : List D → Env → Store → R (List D)
  | [], _, st => .ok [] st
  | x :: xs, σ, st => match T.d x σ with
    | none => .stk
    | some σ1 => (t σ1 st).nox.bind fun b st1 => if b then (f σ1 st1).nox.bind fun d st2 => (loopC T t f xs σ st2).bind fun ds st3 => .ok (d :: ds) st3 else loopC T t f xs σ st1
/-- [f for T in fi if t], a list that nobody changes; one that lives -/
def fLc (fi : FI) (T : Tg) (t : FT) (f : FE) (vs : List Nat) : FE := fun σ st => (fi σ st).bind fun xs st1 => if small xs.length then (loopC T t f xs (wipeD σ vs) st1).nox.bind fun ds st2 => .ok (.lst ds) st2 else .stk
def fLcM (fi : FI) (T : Tg) (t : FT) (f : FE) (vs : List Nat) : FE := fun σ st => (fi σ st).bind fun xs st1 => if small xs.length then (loopC T t f xs (wipeD σ vs) st1).nox.bind fun ds st2 => .ok (.loc st2.length) (st2 ++ [.lst ds]) else .stk
def fYes : FT := fun _ st => .ok true st
/-- a block of a comprehension in X -/
abbrev Blk (X : Cx) (scope : Scope) (P : Cx → Prop) : Prop := ∀ (s : Shared) (H : Hp) (C : Addr) (cl : List (Str × Addr)) (fp : List Addr), P (X.blk s H scope (compEnvC scope cl C X.env) fp)
/-- a clause's test -/
def SIf (g : G) (X : Cx) (ifs : List Expr) (t : FT) : Prop := (ifs = [] ∧ t = fYes) ∨ ∃ c, ifs = [c] ∧ ST g E0 X c t
def mxBE (X : Cx) (scope : Scope) (e : Expr) : TE := fun σ H Q => Blk X scope fun Y => mxE Y e σ H Q
def mxBT (X : Cx) (scope : Scope) (c : Expr) : TT := fun σ H Q => Blk X scope fun Y => mxT Y c σ H Q
/-- the wish of a comprehension's loop: what comes of the items so far and those to come -/
def OkL (g : G) (ρ : Pl) (H : Hp) (Q : List V → Hp → Prop) (acc : List D) : R (List D) → Prop
  | .ok ds st' => ∀ (vs : List V) (H' : Hp) (ρ' : Pl), Le ρ H ρ' H' → SR g ρ' st' H' → Rps g ρ' H' (acc ++ ds) vs → Q vs H'
  | _ => False
section
variable {tg iter : Expr} {ifs : List Expr} {elt : Expr} {scope : Scope} {own : List (Str × Nat)} {pos : Pos} {fi : FI} {T : Tg} {t : FT} {f : FE}
theorem tests_of {tt : TT} {hb : Blk X scope fun Y => PTs Y ifs tt} : Blk X scope fun Y => PTs Y ifs tt := hb
/-- the reading of the loop, from the state behind the walk's making; Dl the new list -/
theorem lc_of {tt : TT} {items : List D} {J : It} {σ : Env} {σV : L2.St} {st1 : Store} {Q : V → Hp → Prop} (hK : X.K = g.K)
    (ht : ∀ (σ : Env) (st : Store) (σV : L2.St) (H : Hp) (ρ : Pl) (Q : Bool → Hp → Prop), ER g ρ H σ σV → SR g ρ st H → OkT g ρ H E0 Q (t σ st) → tt σV H Q)
    (he : ∀ (σ : Env) (st : Store) (σV : L2.St) (H : Hp) (ρ : Pl) (Q : VK), ER g ρ H σ σV → SR g ρ st H → Ok1 g ρ H E0 Q (f σ st) → mxBE X scope elt σV H Q)
    (hT : ∀ i ∈ T.ix, i ∈ own.map (·.2)) (er : ER g ρ H σ σV) (sr : SR g ρ st1 H) (it : ItOk g ρ H J items) (hz : small items.length = true)
    (hq : ∀ ds st2, loopC T t f items (wipeD σ (own.map (·.2))) st1 = .ok ds st2 → ∀ (p : Addr) (vs : List V) (H' : Hp) (ρ' : Pl), H p = none → Le ρ H ρ' H' → SR g (ρ'.hide p) st2 H' → H' p = some (.lst vs) → Rps g (ρ'.hide p) H' ds vs → Q (.ref p) H')
    (hs : ∃ ds st2, loopC T t f items (wipeD σ (own.map (·.2))) st1 = .ok ds st2) (p : Addr) (hp : H p = none) :
    ∃ W : Nat → Nat → Hp → Prop, (∃ m, W 0 m (upd H p (.lst []))) ∧ ∀ i m H', W i m H' → (J.stop i H' ∧ Q (.ref p) H') ∨ (J.go i H' ∧ ∃ Nx : Hp → Prop, (∀ H2, Nx H2 → ∃ m', m' < m ∧ W (i + 1) m' H2) ∧ ∀ x H2, J.yld i H' x H2 → T.t X.K x (wipe σV (own.map (·.2))) H2 fun σ2 H3 => wipe σ2 (own.map (·.2)) = wipe σV (own.map (·.2)) ∧ tt σ2 H3 fun b H4 =>
      if b = true then mxBE X scope elt σ2 H4 fun y H5 => ∃ acc, H5 p = some (.lst acc) ∧ acc.length < sizeLine ∧ Nx (upd H5 p (.lst (acc ++ [y]))) else Nx H4) := by
  obtain ⟨dsF, stF, hF⟩ := hs
  have hq := hq dsF stF hF
  -- between two turns: the items so far stand in the list, those to come give the rest
  let Iv : Nat → Hp → Prop := fun i H' => ∃ (κ : Pl) (st : Store) (acc ds : List D) (vs : List V), Le ρ H κ H' ∧ SR g (κ.hide p) st H' ∧ H' p = some (.lst vs) ∧ Rps g (κ.hide p) H' acc vs ∧ acc.length ≤ i ∧ loopC T t f (items.drop i) (wipeD σ (own.map (·.2))) st = .ok ds stF ∧ acc ++ ds = dsF
  refine ⟨fun i m H' => m = items.length - i ∧ i ≤ items.length ∧ Iv i H', ⟨items.length, by simp, Nat.zero_le _, ρ, st1, [], dsF, [], sr.leLay hp, sr.hide hp, upd_same, rfl, Nat.le_refl _, hF, rfl⟩, ?_⟩
  rintro i m H' ⟨hm, hle, κ, st, acc, ds, vs, l, s, hpv, r, hacc, hl, hd⟩
  subst hm
  by_cases hlt : i < items.length
  · refine .inr ⟨it.goes i κ H' hlt l, Iv (i + 1), fun H2 q => ⟨items.length - (i + 1), by omega, rfl, hlt, q⟩, fun x H2 y => ?_⟩
    have kb : ∀ {κ' : Pl} {Hx : Hp}, Le ρ H κ' Hx → Ke ρ H (κ'.hide p) Hx := fun {κ' Hx} l => ⟨fun _ _ h => l.get h, fun a u n q h => by
      obtain ⟨n1, h1⟩ := l.rd n q h
      exact ⟨⟨n1.1, fun z => (List.mem_cons.mp z).elim (fun e => by rcases h with h | ⟨b, h⟩ <;> rw [e, hp] at h <;> cases h) n1.2⟩, h1⟩⟩
    obtain ⟨d, hd1, l2, s2, r2⟩ := it.yields i κ (κ.hide p) H' st x H2 hlt l (kb l) s y
    have ed : items.drop i = d :: items.drop (i + 1) := by
      rw [List.drop_eq_getElem_cons hlt]
      have := List.getElem?_eq_getElem hlt
      rw [this] at hd1
      rw [Option.some.inj hd1]
    rw [ed] at hl
    -- a step from within: what was ahead of all stays
    have out : ∀ {κ' : Pl} {Hx Hy : Hp} {κ'' : Pl}, Le ρ H κ' Hx → Le (κ'.hide p) Hx κ'' Hy → Le ρ H ⟨κ''.lk, ρ.ex⟩ Hy ∧ κ'' = (⟨κ''.lk, ρ.ex⟩ : Pl).hide p := fun {κ' Hx Hy κ''} l l2 => by
      obtain ⟨t1, e1, f1⟩ := l.pre
      obtain ⟨t2, e2, f2⟩ := l2.pre
      refine ⟨⟨⟨t1 ++ t2, by show κ''.lk = _; rw [e2]; show κ'.lk ++ t2 = _; rw [e1, List.append_assoc], fun a ha => ?_⟩, rfl, fun a u h n q => ?_, fun a ha => ?_, fun a h => l2.dom a (l.dom a h), fun a o u h => l2.fz a o u (l.fz a o u h)⟩, ?_⟩
      · rcases List.mem_append.mp ha with z | z
        · exact f1 a z
        · exact fun h => f2 a z (l.dom a h)
      · refine l2.keep a u (l.keep a u h n q) (fun z => ?_) q
        have z : a ∈ κ'.lk := z
        rw [e1] at z
        rcases List.mem_append.mp z with z | z
        · exact n z
        · exact f1 a z (Has.rd h q)
      · exact (l2.hidk a (List.mem_cons_of_mem _ (by rw [l.hid]; exact ha))).trans (l.hidk a ha)
      · have := l2.hid
        cases κ'' with
        | mk lk ex =>
          have this : ex = p :: κ'.ex := this
          rw [this, l.hid] <;> rfl
    cases hgt : T.d d (wipeD σ (own.map (·.2))) with
    | none => simp only [loopC, hgt] at hl; cases hl
    | some σ1 =>
      simp only [loopC, hgt] at hl
      refine T.ok (X := X) (ρ := κ.hide p) hK (((er.ke (kb (l.trans (Le.refl _ _)))).mono l2).wipe _) r2 hgt fun σV1 er1 hw => ⟨?_, ?_⟩
      · rw [hw _ hT, wipe_wipe]
      · cases h1 : t σ1 st with
        | exc c st2 => rw [h1] at hl; cases hl
        | stk => rw [h1] at hl; cases hl
        | ok b st2 =>
          rw [h1] at hl
          refine ht σ1 st σV1 H2 (κ.hide p) _ er1 s2 ?_
          rw [h1]
          intro H3 κ3 l3 s3
          have hl : (if b = true then (f σ1 st2).nox.bind fun d st2 => (loopC T t f (items.drop (i + 1)) (wipeD σ (own.map (·.2))) st2).bind fun ds st3 => .ok (d :: ds) st3 else loopC T t f (items.drop (i + 1)) (wipeD σ (own.map (·.2))) st2) = R.ok ds stF := hl
          have l23 := l2.trans l3
          obtain ⟨o1, o2⟩ := out l l23
          have hp3 : H3 p = some (.lst vs) := (l23.hidk p List.mem_cons_self).trans hpv
          cases b with
          | false =>
            rw [if_neg Bool.false_ne_true] at hl ⊢
            exact ⟨⟨κ3.lk, ρ.ex⟩, st2, acc, ds, vs, o1, by rw [← o2]; exact s3, hp3, by rw [← o2]; exact r.mono l23, by omega, hl, hd⟩
          | true =>
            rw [if_pos rfl] at hl ⊢
            cases h2 : f σ1 st2 with
            | exc c st4 => rw [h2] at hl; cases hl
            | stk => rw [h2] at hl; cases hl
            | ok d4 st4 =>
              rw [h2] at hl
              refine he σ1 st2 σV1 H3 κ3 _ (er1.mono l3) s3 ?_
              rw [h2]
              intro v4 H4 κ4 l4 s4 r4
              have hl : ((loopC T t f (items.drop (i + 1)) (wipeD σ (own.map (·.2))) st4).bind fun ds st3 => .ok (d4 :: ds) st3) = R.ok ds stF := hl
              have l234 := l23.trans l4
              obtain ⟨o3, o4⟩ := out l l234
              have hp4 : H4 p = some (.lst vs) := (l234.hidk p List.mem_cons_self).trans hpv
              have hx4 : p ∈ κ4.ex := by rw [l234.hid]; exact List.mem_cons_self
              refine ⟨vs, hp4, ?_, ?_⟩
              · rw [← r.length]
                have := of_decide_eq_true hz
                have := small_lt (n := acc.length) (decide_eq_true (by omega))
                exact this
              · cases h5 : loopC T t f (items.drop (i + 1)) (wipeD σ (own.map (·.2))) st4 with
                | exc c st5 => rw [h5] at hl; cases hl
                | stk => rw [h5] at hl; cases hl
                | ok ds5 st5 =>
                  rw [h5] at hl
                  have hl : R.ok (d4 :: ds5) st5 = R.ok ds stF := hl
                  injection hl with e1 e2
                  subst e1 e2
                  refine ⟨⟨κ4.lk, ρ.ex⟩, st4, acc ++ [d4], ds5, vs ++ [v4], ?_, ?_, upd_same, ?_, by rw [List.length_append]; show acc.length + 1 ≤ i + 1; omega, h5, by rw [List.append_assoc]; exact hd⟩
                  · refine ⟨o3.pre, o3.hid, fun a u h n q => rd_ne (fun e => ?_) (o3.keep a u h n q), fun a ha => (upd_ne fun e => ?_).trans (o3.hidk a ha), fun a h => (o3.dom a h).ov lst_tbl, fun a o u h => (upd_ne fun e => by rw [e, hp] at h; cases h).trans (o3.fz a o u h)⟩
                    · rcases h with h | ⟨b, h⟩ <;> rw [e, hp] at h <;> cases h
                    · rw [e] at ha
                      exact Has.no hp (sr.hidT p ha)
                  · rw [← o4]
                    exact s4.writeHid hx4 hp4 lst_tbl lst_code
                  · rw [← o4]
                    exact ((r.mono l234).append (Rps.one r4)).ke (ke_hid hx4)
  · have e : i = items.length := by omega
    subst e
    rw [List.drop_length] at hl
    have hl : R.ok [] st = R.ok ds stF := hl
    injection hl with e1 e2
    subst e1 e2
    rw [List.append_nil] at hd
    subst hd
    exact .inl ⟨it.stops κ H' l, hq p vs H' κ hp l s hpv r⟩
/-- a clause without a test; with one -/
theorem lc_ends {σ : Env} {st : Store} {σV : L2.St} {Q : VK} {kf : List D → Store → R D} {tt : TT} {wi : TI} (hK : X.K = g.K) (tk : Tk X E)
    (hwi : ∀ (σ : Env) (st : Store) (σV : L2.St) (H : Hp) (ρ : Pl) (Q : It → Hp → Prop), ER g ρ H σ σV → SR g ρ st H → OkI g ρ H E Q (fi σ st) → wi σV H Q)
    (ht : ∀ (σ : Env) (st : Store) (σV : L2.St) (H : Hp) (ρ : Pl) (Q : Bool → Hp → Prop), ER g ρ H σ σV → SR g ρ st H → OkT g ρ H E0 Q (t σ st) → tt σV H Q)
    (he : Blk X scope fun Y => SE g E0 Y elt f) (hT : ∀ i ∈ T.ix, i ∈ own.map (·.2)) (er : ER g ρ H σ σV) (sr : SR g ρ st H)
    (h : Ok1 g ρ H E Q ((fi σ st).bind fun xs st1 => if small xs.length then (loopC T t f xs (wipeD σ (own.map (·.2))) st1).nox.bind kf else .stk))
    (hq : ∀ ds st2 (ρ1 : Pl) (H1 : Hp) (p : Addr) (vs : List V) (H' : Hp) (ρ' : Pl) (st1 : Store), Ok1 g ρ1 H1 E Q (kf ds st2) → SR g ρ1 st1 H1 → H1 p = none → Le ρ1 H1 ρ' H' → SR g (ρ'.hide p) st2 H' → H' p = some (.lst vs) → Rps g (ρ'.hide p) H' ds vs → Q (.ref p) H') :
    tLc wi (T.t X.K) tt (mxBE X scope elt) (own.map (·.2)) σV H Q := by
  refine hwi σ st σV H ρ _ er sr ?_
  cases e1 : fi σ st with
  | exc c st1 => rw [e1] at h; exact h
  | stk => rw [e1] at h; exact h.elim
  | ok items st1 =>
    rw [e1] at h
    intro J H1 ρ1 l1 s1 it p hp
    have h : Ok1 g ρ H E Q (if small items.length = true then (loopC T t f items (wipeD σ (own.map (·.2))) st1).nox.bind kf else .stk) := h
    by_cases hz : small items.length = true
    · rw [if_pos hz] at h
      cases e2 : loopC T t f items (wipeD σ (own.map (·.2))) st1 with
      | exc c st2 => rw [e2] at h; exact h.elim
      | stk => rw [e2] at h; exact h.elim
      | ok ds st2 =>
        rw [e2] at h
        have h : Ok1 g ρ1 H1 E Q (kf ds st2) := Ok1.mono l1 h
        refine lc_of hK ht (fun σ st σV H ρ Q er sr q s H0 C cl fp => he s H0 C cl fp hK tk0 σ st σV H ρ Q er sr q) hT (er.mono l1) s1 it hz (fun ds' st2' e3 p vs H' ρ' hp l s hpv r => ?_) ⟨ds, st2, e2⟩ p hp
        rw [e2] at e3
        injection e3 with e4 e5
        subst e4 e5
        exact hq ds st2 ρ1 H1 p vs H' ρ' st1 h s1 hp l s hpv r
    · rw [if_neg hz] at h
      exact h.elim
theorem lc_froz {ds : List D} {st1 st2 : Store} {ρ1 ρ' : Pl} {H1 : Hp} {p : Addr} {vs : List V} {Q : VK} (h : Ok1 g ρ1 H1 E Q (.ok (.lst ds) st2)) (s1 : SR g ρ1 st1 H1) (hp : H1 p = none) (l : Le ρ1 H1 ρ' H') (s : SR g (ρ'.hide p) st2 H') (hpv : H' p = some (.lst vs)) (r : Rps g (ρ'.hide p) H' ds vs) : Q (.ref p) H' :=
  h _ H' ρ' l s.unhide ⟨p, vs, rfl, ⟨⟨s.hid p List.mem_cons_self, fun z => Has.no hp (s1.hidT p (by rw [← l.hid]; exact z))⟩, .inl hpv⟩, r.ke ke_show⟩
theorem lc_live {ds : List D} {st1 st2 : Store} {ρ1 ρ' : Pl} {H1 : Hp} {p : Addr} {vs : List V} {Q : VK} (h : Ok1 g ρ1 H1 E Q (.ok (.loc st2.length) (st2 ++ [.lst ds]))) (s1 : SR g ρ1 st1 H1) (hp : H1 p = none) (l : Le ρ1 H1 ρ' H') (s : SR g (ρ'.hide p) st2 H') (hpv : H' p = some (.lst vs)) (r : Rps g (ρ'.hide p) H' ds vs) : Q (.ref p) H' := by
  have np : p ∉ ρ'.lk := s.hid p List.mem_cons_self
  have k : Ke (ρ'.hide p) H' (ρ'.push p) H' := ⟨fun n a h => by
    have h : ρ'.lk[n]? = some a := h
    show (ρ'.lk ++ [p])[n]? = some a
    rw [List.getElem?_append_left (List.getElem?_eq_some_iff.mp h).1]
    exact h, fun a u n q h => ⟨⟨fun z => (List.mem_append.mp z).elim n.1 fun z => n.2 (by rw [List.mem_singleton.mp z]; exact List.mem_cons_self), fun z => n.2 (List.mem_cons_of_mem _ z)⟩, h⟩⟩
  refine h _ H' (ρ'.push p) ⟨?_, l.hid, l.keep, l.hidk, l.dom, l.fz⟩ ⟨?_, ?_, ?_, fun a ha => s.hidT a (List.mem_cons_of_mem _ ha), fun n c hc => ?_, s.tabs⟩ ⟨p, rfl, ?_⟩
  · obtain ⟨t, e, f⟩ := l.pre
    refine ⟨t ++ [p], by show ρ'.lk ++ [p] = _; rw [e, List.append_assoc], fun a ha => ?_⟩
    rcases List.mem_append.mp ha with z | z
    · exact f a z
    · rw [List.mem_singleton.mp z]; exact Has.no hp
  · show (ρ'.lk ++ [p]).length = _
    rw [List.length_append, List.length_append, show ρ'.lk.length = st2.length from s.len] <;> rfl
  · refine List.nodup_append.mpr ⟨s.nd, List.nodup_cons.mpr ⟨by simp, List.nodup_nil⟩, fun a ha b hb e => ?_⟩
    rw [List.mem_singleton.mp hb] at e
    rw [e] at ha
    exact np ha
  · intro a ha z
    rcases List.mem_append.mp z with z | z
    · exact s.hid a (List.mem_cons_of_mem _ ha) z
    · rw [List.mem_singleton.mp z] at ha
      have ha : p ∈ ρ'.ex := ha
      rw [l.hid] at ha
      exact Has.no hp (s1.hidT p ha)
  · by_cases hn : n < st2.length
    · rw [List.getElem?_append_left hn] at hc
      obtain ⟨a, e, q⟩ := s.cell n c hc
      exact ⟨a, k.get n a e, q.ke k rfl⟩
    · rw [List.getElem?_append_right (by omega)] at hc
      have hn2 : n - st2.length = 0 := by
        cases e : n - st2.length with
        | zero => rfl
        | succ m => rw [e] at hc; simp at hc
      rw [hn2] at hc
      have hc' : Cell.lst ds = c := by simpa using hc
      subst hc'
      refine ⟨p, ?_, vs, hpv, r.ke k⟩
      show (ρ'.lk ++ [p])[n]? = some p
      rw [List.getElem?_append_right (by rw [show ρ'.lk.length = st2.length from s.len]; omega), show ρ'.lk.length = st2.length from s.len, hn2] <;> rfl
  · show (ρ'.lk ++ [p])[st2.length]? = some p
    rw [← show ρ'.lk.length = st2.length from s.len, List.getElem?_append_right (Nat.le_refl _), Nat.sub_self] <;> rfl
theorem yes_ok (σ : Env) (st : Store) (σV : L2.St) (H : Hp) (ρ : Pl) (Q : Bool → Hp → Prop) (er : ER g ρ H σ σV) (sr : SR g ρ st H) (h : OkT g ρ H E0 Q (fYes σ st)) : tYes σV H Q := h H ρ (Le.refl _ _) sr
theorem se_lc (hc : X.calm = true) (hN : X.N.Nodup) (hi : SI g E X tg iter fi) (ok : BlkOk X.N X.env.scope scope own) (hg : Blk X scope fun Y => SG Y tg T) (he : Blk X scope fun Y => SE g E0 Y elt f) (hT : ∀ i ∈ T.ix, i ∈ own.map (·.2)) (hs : ∀ x, foldedSetIterable iter X.env x = pure x := by intro _; rfl) :
    SE g E X (.ListComp elt [⟨tg, iter, [], 0⟩] scope pos) (fLc fi T fYes f (own.map (·.2))) := .mk fun hK tk σ st σV H ρ Q er sr h => by
  obtain ⟨wi, pi, qi⟩ := hi hK tk
  exact mx_of (pe_lc hc hN pi ok hg (fun _ _ _ _ _ => pts_nil) (te := mxBE X scope elt) (fun s H C cl fp => ⟨fun pins s1 σ1 H1 Q1 I q => q s H C cl fp pins s1 I⟩) hs) (lc_ends hK tk qi yes_ok he hT er sr h fun ds st2 ρ1 H1 p vs H' ρ' st1 q s1 hp l s hpv r => lc_froz q s1 hp l s hpv r)
theorem se_lcM (hc : X.calm = true) (hN : X.N.Nodup) (hi : SI g E X tg iter fi) (ok : BlkOk X.N X.env.scope scope own) (hg : Blk X scope fun Y => SG Y tg T) (he : Blk X scope fun Y => SE g E0 Y elt f) (hT : ∀ i ∈ T.ix, i ∈ own.map (·.2)) (hs : ∀ x, foldedSetIterable iter X.env x = pure x := by intro _; rfl) :
    SE g E X (.ListComp elt [⟨tg, iter, [], 0⟩] scope pos) (fLcM fi T fYes f (own.map (·.2))) := .mk fun hK tk σ st σV H ρ Q er sr h => by
  obtain ⟨wi, pi, qi⟩ := hi hK tk
  exact mx_of (pe_lc hc hN pi ok hg (fun _ _ _ _ _ => pts_nil) (te := mxBE X scope elt) (fun s H C cl fp => ⟨fun pins s1 σ1 H1 Q1 I q => q s H C cl fp pins s1 I⟩) hs) (lc_ends hK tk qi yes_ok he hT er sr h fun ds st2 ρ1 H1 p vs H' ρ' st1 q s1 hp l s hpv r => lc_live q s1 hp l s hpv r)
variable {c : Expr}
theorem se_lcIf (hc : X.calm = true) (hN : X.N.Nodup) (hi : SI g E X tg iter fi) (ok : BlkOk X.N X.env.scope scope own) (hg : Blk X scope fun Y => SG Y tg T) (ht : Blk X scope fun Y => ST g E0 Y c t) (he : Blk X scope fun Y => SE g E0 Y elt f) (hT : ∀ i ∈ T.ix, i ∈ own.map (·.2)) (hs : ∀ x, foldedSetIterable iter X.env x = pure x := by intro _; rfl) :
    SE g E X (.ListComp elt [⟨tg, iter, [c], 0⟩] scope pos) (fLc fi T t f (own.map (·.2))) := .mk fun hK tk σ st σV H ρ Q er sr h => by
  obtain ⟨wi, pi, qi⟩ := hi hK tk
  exact mx_of (pe_lc hc hN pi ok hg (tt := mxBT X scope c) (fun s H C cl fp => pts_one ⟨fun pins s1 σ1 H1 Q1 I q => q s H C cl fp pins s1 I⟩) (te := mxBE X scope elt) (fun s H C cl fp => ⟨fun pins s1 σ1 H1 Q1 I q => q s H C cl fp pins s1 I⟩) hs)
    (lc_ends hK tk qi (fun σ st σV H ρ Q er sr q s H0 C cl fp => ht s H0 C cl fp hK tk0 σ st σV H ρ Q er sr q) he hT er sr h fun ds st2 ρ1 H1 p vs H' ρ' st1 q s1 hp l s hpv r => lc_froz q s1 hp l s hpv r)
end
end Hw
/-! HwE: assignments of comprehensions and of several names, raise, built-ins, methods. -/
namespace Hw
open PySem PySem.Spec PyProof.Rows L2
variable {g : G} {ρ ρ' ρ'' : Pl} {H H' H'' : Hp} {E : XK} {X : Cx}

/-! ### name = [..] -/
theorem OkS.set1 {Z : Ends} {r : R D} {σ : Env} {σV : L2.St} {i : Nat} (er : ER g ρ H σ σV) (h : OkS g ρ H E Z (r.thn fun d st1 => .nx (σ.set i (some d)) st1)) : Ok1 g ρ H E (fun x H1 => gName i x σV H1 Z.nx) r :=
  OkS.thn h fun d st1 v H1 ρ1 l1 s1 r1 h1 => h1 _ H1 ρ1 (Le.refl _ _) s1 ((er.mono l1).set i r1)
section
variable {i : Nat} {y : Str} {py spos : Pos} {tg iter c : Expr} {elt : Expr} {scope : Scope} {own : List (Str × Nat)} {pos : Pos} {fi : FI} {T : Tg} {t : FT} {f : FE}
theorem ss_lc (hc : X.calm = true) (hN : X.N.Nodup) (hy : X.N[i]? = some y) (hyl : X.env.scope.names.lookup y = some .local) (hsw : swapsWith (.ListComp elt [⟨tg, iter, [], 0⟩] scope pos) (some (.Name y py)) spos.line X.env = pure true)
    (hi : SI g E X tg iter fi) (ok : BlkOk X.N X.env.scope scope own) (hg : Blk X scope fun Y => SG Y tg T) (he : Blk X scope fun Y => SE g E0 Y elt f) (hT : ∀ i ∈ T.ix, i ∈ own.map (·.2)) (hs : ∀ x, foldedSetIterable iter X.env x = pure x := by intro _; rfl) :
    SS g E X (.Assign [.Name y py] (.ListComp elt [⟨tg, iter, [], 0⟩] scope pos) spos) (sSet i (fLc fi T fYes f (own.map (·.2)))) := .mk fun hK tk σ st σV H ρ Z er sr h => by
  obtain ⟨wi, pi, qi⟩ := hi hK tk
  exact ms_of (ps_setLc hc hN hy hyl hsw pi ok hg (fun _ _ _ _ _ => pts_nil) (te := mxBE X scope elt) (fun s H C cl fp => ⟨fun pins s1 σ1 H1 Q1 I q => q s H C cl fp pins s1 I⟩) hs)
    (lc_ends hK tk qi yes_ok he hT er sr (OkS.set1 er h) fun ds st2 ρ1 H1 p vs H' ρ' st1 q s1 hp l s hpv r => lc_froz q s1 hp l s hpv r)
theorem ss_lcM (hc : X.calm = true) (hN : X.N.Nodup) (hy : X.N[i]? = some y) (hyl : X.env.scope.names.lookup y = some .local) (hsw : swapsWith (.ListComp elt [⟨tg, iter, [], 0⟩] scope pos) (some (.Name y py)) spos.line X.env = pure true)
    (hi : SI g E X tg iter fi) (ok : BlkOk X.N X.env.scope scope own) (hg : Blk X scope fun Y => SG Y tg T) (he : Blk X scope fun Y => SE g E0 Y elt f) (hT : ∀ i ∈ T.ix, i ∈ own.map (·.2)) (hs : ∀ x, foldedSetIterable iter X.env x = pure x := by intro _; rfl) :
    SS g E X (.Assign [.Name y py] (.ListComp elt [⟨tg, iter, [], 0⟩] scope pos) spos) (sSet i (fLcM fi T fYes f (own.map (·.2)))) := .mk fun hK tk σ st σV H ρ Z er sr h => by
  obtain ⟨wi, pi, qi⟩ := hi hK tk
  exact ms_of (ps_setLc hc hN hy hyl hsw pi ok hg (fun _ _ _ _ _ => pts_nil) (te := mxBE X scope elt) (fun s H C cl fp => ⟨fun pins s1 σ1 H1 Q1 I q => q s H C cl fp pins s1 I⟩) hs)
    (lc_ends hK tk qi yes_ok he hT er sr (OkS.set1 er h) fun ds st2 ρ1 H1 p vs H' ρ' st1 q s1 hp l s hpv r => lc_live q s1 hp l s hpv r)
theorem ss_lcIf (hc : X.calm = true) (hN : X.N.Nodup) (hy : X.N[i]? = some y) (hyl : X.env.scope.names.lookup y = some .local) (hsw : swapsWith (.ListComp elt [⟨tg, iter, [c], 0⟩] scope pos) (some (.Name y py)) spos.line X.env = pure true)
    (hi : SI g E X tg iter fi) (ok : BlkOk X.N X.env.scope scope own) (hg : Blk X scope fun Y => SG Y tg T) (ht : Blk X scope fun Y => ST g E0 Y c t) (he : Blk X scope fun Y => SE g E0 Y elt f) (hT : ∀ i ∈ T.ix, i ∈ own.map (·.2)) (hs : ∀ x, foldedSetIterable iter X.env x = pure x := by intro _; rfl) :
    SS g E X (.Assign [.Name y py] (.ListComp elt [⟨tg, iter, [c], 0⟩] scope pos) spos) (sSet i (fLc fi T t f (own.map (·.2)))) := .mk fun hK tk σ st σV H ρ Z er sr h => by
  obtain ⟨wi, pi, qi⟩ := hi hK tk
  exact ms_of (ps_setLc hc hN hy hyl hsw pi ok hg (tt := mxBT X scope c) (fun s H C cl fp => pts_one ⟨fun pins s1 σ1 H1 Q1 I q => q s H C cl fp pins s1 I⟩) (te := mxBE X scope elt) (fun s H C cl fp => ⟨fun pins s1 σ1 H1 Q1 I q => q s H C cl fp pins s1 I⟩) hs)
    (lc_ends hK tk qi (fun σ st σV H ρ Q er sr q s H0 C cl fp => ht s H0 C cl fp hK tk0 σ st σV H ρ Q er sr q) he hT er sr (OkS.set1 er h) fun ds st2 ρ1 H1 p vs H' ρ' st1 q s1 hp l s hpv r => lc_froz q s1 hp l s hpv r)
end

/-! ### several names at once -/
/-- a tuple's value to a target -/
def sAsg (T : Tg) (f : FE) : FS := fun σ st => (f σ st).thn fun d st1 => match T.d d σ with
  | some σ' => .nx σ' st1
  | none => .stk
theorem ss_asg {tg e : Expr} {T : Tg} {f : FE} {pos : Pos} (he : SE g E X e f) (hg : SG X tg T) (hs : swapsWithSole [tg] e pos.line X.env = pure false := by rfl) (hw : swappedStores [tg] e X.env = pure none := by rfl) (h1 : (assignEach [tg] X.env).map (·.2) = [assign tg X.env] := by rfl) :
    SS g E X (.Assign [tg] e pos) (sAsg T f) := .mk fun hK tk σ st σV H ρ Z er sr h =>
  ms_of (ps_asg (pe_mx (e := e)) hg hs hw h1) (he hK tk σ st σV H ρ _ er sr (OkS.thn h fun d st1 v H1 ρ1 l1 s1 r1 h1 => by
    cases e1 : T.d d σ with
    | none => rw [e1] at h1; exact h1.elim
    | some σ' =>
      rw [e1] at h1
      exact T.ok hK (er.mono l1) r1 e1 fun σV' er' _ => h1 σV' H1 ρ1 (Le.refl _ _) s1 er'))
/-- a, b = x, y -/
def sPar (i j : Nat) (fa : FA) : FS := fun σ st => (fa σ st).thn fun ds st1 => match ds with
  | [d, e] => .nx ((σ.set i (some d)).set j (some e)) st1
  | _ => .stk
theorem ss_par {i j : Nat} {x y : Str} {a b : Expr} {fa : FA} {px py pt pos : Pos} {kt k2 pt2} (hc : X.calm = true) (hN : X.N.Nodup) (hi : X.N[i]? = some x) (hj : X.N[j]? = some y) (hij : i ≠ j)
    (hx : X.env.scope.names.lookup x = some .local) (hy : X.env.scope.names.lookup y = some .local) (ha : SA g E X [a, b] fa) (hw : swappedStores [.Tuple [.Name x px, .Name y py] kt pt] (.Tuple [a, b] k2 pt2) X.env = pure (some [x, y]))
    (hs : swapsWithSole [.Tuple [.Name x px, .Name y py] kt pt] (.Tuple [a, b] k2 pt2) pos.line X.env = pure false := by rfl) : SS g E X (.Assign [.Tuple [.Name x px, .Name y py] kt pt] (.Tuple [a, b] k2 pt2) pos) (sPar i j fa) := .mk fun hK tk σ st σV H ρ Z er sr h =>
  ms_of (ps_par hc hN hi hj hij hx hy (pa_mx (es := [a, b])) hw hs) (ha hK tk σ st σV H ρ _ er sr (OkS.thnA h fun ds st1 vs H1 ρ1 l1 s1 r1 h1 => by
    split at h1
    · rename_i d e
      obtain ⟨v, r, e1, q1, w, r2, e2, q2, e3⟩ := r1
      have e3 : r2 = [] := e3
      subst e3 e2 e1
      exact ⟨v, w, rfl, h1 _ H1 ρ1 (Le.refl _ _) s1 (((er.mono l1).set i q1).set j q2)⟩
    · exact h1.elim))

/-! ### raise -/
def sRaise (c : Nat) : FS := fun _ st => .exc c st
/-- a class of the program's refusals, of the one base over ValueError -/
structure ExcK (K : PySem.W.Frag) (mg : Str → Option Value) (x : Str) (C : Addr) : Prop where
  ex : ∃ (B newId initId : String) (bmB : List Value), ExcBaseFacts B newId initId bmB ∧ PySem.W.excIn K C bmB newId = true
  mgx : mg x = some (.ref C)
  kp : PySem.W.keepIn K (.ref C) = true
  sub : PySem.W.subIn K (.ref C) (.type "BaseException") = some true
  ty : PySem.W.typeIn K (.ref C) = some (.type "type")
theorem ss_raise {x m : Str} {c j : Nat} {p p2 pos pos' : Pos} (hc : X.calm = true) (C : ExcK X.K X.mg x (g.ca c)) (hg : Gl X x) (hdb : (x == ("__debug__" : Str)) = false := by decide) :
    SS g E X (.Raise (some (.Call (.Name x p) [.Constant (.str m) j p2] [] pos)) none pos') (sRaise c) := .mk fun hK tk σ st σV H ρ Z er sr h => by
  obtain ⟨B, newId, initId, bmB, F, q⟩ := C.ex
  exact ms_of (L2N.ps_raise hc tk (L2N.pmk_own F q C.mgx C.kp (raises_own C.sub C.ty) hg hdb)) (h H ρ (Le.refl _ _) sr)

/-! ### built-in calls -/
def SC (g : G) (r : List V → Hp → VK → Prop) (d : List D → Store → Option (D × Store)) : Prop := ∀ (xs : List D) (z : D) (st st' : Store) (ρ : Pl) (H : Hp) (vs : List V) (Q : VK), SR g ρ st H → Rps g ρ H xs vs → d xs st = some (z, st') →
  (∀ (u : V) (H' : Hp) (ρ' : Pl), Le ρ H ρ' H' → SR g ρ' st' H' → Rp g ρ' H' z u → Q u H') → r vs H Q
def fCB (d : List D → Store → Option (D × Store)) (fa : FA) : FE := fun σ st => (fa σ st).bind fun xs st1 => R.of (d xs st1)
theorem cb_of {es : List Expr} {fa : FA} {d : List D → Store → Option (D × Store)} {r : List V → Hp → VK → Prop} {σ : Env} {st : Store} {σV : L2.St} {Q : VK} (hK : X.K = g.K) (tk : Tk X E) (ha : SA g E X es fa) (hd : SC g r d) (er : ER g ρ H σ σV) (sr : SR g ρ st H)
    (h : Ok1 g ρ H E Q (fCB d fa σ st)) : tCB r (mxA X es) σV H Q := ha hK tk σ st σV H ρ _ er sr (Ok1.bindA h fun xs st1 vs H1 ρ1 l1 s1 r1 h1 => by
  obtain ⟨z, st', e, q⟩ := h1.of
  exact hd xs z st1 st' ρ1 H1 vs Q s1 r1 e q)
section
variable {x : Str} {p pos : Pos} {e : Expr} {es : List Expr} {fa : FA} {d : List D → Store → Option (D × Store)} {r : List V → Hp → VK → Prop} {id T : String}
theorem se_cb (hc : CallR X (.builtin id) r) (hd : SC g r d) (hg : Gl X x) (hm : X.mg x = none) (hv : bootBuiltins x = some (.builtin id)) (ha : SA g E X (e :: es) fa) (hn : x ≠ "__name__" := by decide) (hdb : (x == ("__debug__" : Str)) = false := by decide)
    (he : starEach (e :: es) X.env = (false, eval e X.env) :: starEach es X.env := by rfl) (hpl : (backTo pos (starEach es X.env)).any (·.1) = false := by rfl) : SE g E X (.Call (.Name x p) (e :: es) [] pos) (fCB d fa) := .mk fun hK tk σ st σV H ρ Q er sr h =>
  mx_of (pe_callB hc hg hm hv (pa_mx (es := e :: es)) hn hdb he hpl) (cb_of hK tk ha hd er sr h)
theorem se_ct (hc : CallR X (.type T) r) (hd : SC g r d) (hg : Gl X x) (hm : X.mg x = none) (hv : bootBuiltins x = some (.type T)) (ha : SA g E X (e :: es) fa) (hn : x ≠ "__name__" := by decide) (hdb : (x == ("__debug__" : Str)) = false := by decide)
    (he : starEach (e :: es) X.env = (false, eval e X.env) :: starEach es X.env := by rfl) (hpl : (backTo pos (starEach es X.env)).any (·.1) = false := by rfl) : SE g E X (.Call (.Name x p) (e :: es) [] pos) (fCB d fa) := .mk fun hK tk σ st σV H ρ Q er sr h =>
  mx_of (pe_callTy hc hg hm hv (pa_mx (es := e :: es)) hn hdb he hpl) (cb_of hK tk ha hd er sr h)
end
theorem Rps.un1 {d : D} {vs : List V} (h : Rps g ρ H [d] vs) : ∃ v, vs = [v] ∧ Rp g ρ H d v := by
  obtain ⟨v, r, e, q, z⟩ := h
  have z : r = [] := z
  subst z
  exact ⟨v, e, q⟩
theorem Rps.un2 {d e : D} {vs : List V} (h : Rps g ρ H [d, e] vs) : ∃ v w, vs = [v, w] ∧ Rp g ρ H d v ∧ Rp g ρ H e w := by
  obtain ⟨v, r, e1, q, z⟩ := h
  obtain ⟨w, e2, q2⟩ := z.un1
  subst e2
  exact ⟨v, w, e1, q, q2⟩
/-- len of a text, a list, a tuple, a dict that nobody changes -/
def dLen (xs : List D) (st : Store) : Option (D × Store) := match xs with
  | [.str s] => if small s.length then some (.int (s.length : Nat), st) else none
  | [d] => (seqOf st d).map fun ys => (.int (ys.length : Nat), st)
  | _ => none
def rLenAll (K : PySem.W.Frag) : List V → Hp → VK → Prop := fun xs H Q => (∃ p ys, xs = [V.ref p] ∧ (SqL K H p ys ∨ SqT K H p ys) ∧ Q (.int ys.length) H) ∨ ∃ z, xs = [V.str z] ∧ z.length ≤ sizeLine ∧ Q (.int z.length) H
theorem call_lenAll : CallR X (.builtin "len") (rLenAll X.K) := fun pins s σ H xs us Q I r h => h.elim (fun h => call_len_seq pins s σ H xs us Q I r h) fun h => call_len_str pins s σ H xs us Q I r h
theorem sc_len (hK : X.K = g.K) : SC g (rLenAll X.K) dLen := by
  intro xs z st st' ρ H vs Q sr r h q
  have via : ∀ d, Rps g ρ H [d] vs → ((seqOf st d).map fun ys => (D.int (ys.length : Nat), st)) = some (z, st') → rLenAll X.K vs H Q := fun d r h => by
    rw [Option.map_eq_some_iff] at h
    obtain ⟨ys, h1, h2⟩ := h
    cases h2
    obtain ⟨v, e, r1⟩ := r.un1
    obtain ⟨a, ws, e1, t, s⟩ := seqOf_ok hK sr r1 h1
    subst e1
    exact .inl ⟨a, ws, e, t, by rw [← s.length]; exact q _ H ρ (Le.refl _ _) sr rfl⟩
  unfold dLen at h
  split at h
  · obtain ⟨h4, h5⟩ := if_some h
    cases h5
    obtain ⟨v, e, r1⟩ := r.un1
    exact .inr ⟨_, by rw [e, show v = _ from r1], small_le h4, q _ H ρ (Le.refl _ _) sr rfl⟩
  · exact via _ r h
  · cases h
/-- max, min of two whole numbers -/
def dMax (xs : List D) (st : Store) : Option (D × Store) := match xs with
  | [.int i, .int j] => some (.int (if j > i then j else i), st)
  | _ => none
def dMin (xs : List D) (st : Store) : Option (D × Store) := match xs with
  | [.int i, .int j] => some (.int (if j < i then j else i), st)
  | _ => none
theorem sc_max : SC g (fun xs H Q => ∃ i j, xs = [V.int i, V.int j] ∧ Q (.int (if j > i then j else i)) H) dMax := by
  intro xs z st st' ρ H vs Q sr r h q
  unfold dMax at h
  split at h
  · cases h
    obtain ⟨v, w, e, r1, r2⟩ := r.un2
    exact ⟨_, _, by rw [e, show v = _ from r1, show w = _ from r2], q _ H ρ (Le.refl _ _) sr rfl⟩
  · cases h
theorem sc_min : SC g (fun xs H Q => ∃ i j, xs = [V.int i, V.int j] ∧ Q (.int (if j < i then j else i)) H) dMin := by
  intro xs z st st' ρ H vs Q sr r h q
  unfold dMin at h
  split at h
  · cases h
    obtain ⟨v, w, e, r1, r2⟩ := r.un2
    exact ⟨_, _, by rw [e, show v = _ from r1, show w = _ from r2], q _ H ρ (Le.refl _ _) sr rfl⟩
  · cases h
/-- tuple(xs) -/
def dTuple (xs : List D) (st : Store) : Option (D × Store) := match xs with
  | [d] => (seqOf st d).map fun ys => (.tup ys, st)
  | _ => none
theorem sc_tuple (hK : X.K = g.K) : SC g (fun xs H Q => ∃ p ys, xs = [V.ref p] ∧ ((SqL X.K H p ys ∧ ∀ l, H l = none → Q (.ref l) (upd H l (.tup ys))) ∨ (SqT X.K H p ys ∧ Q (.ref p) H))) dTuple := by
  intro xs z st st' ρ H vs Q sr r h q
  unfold dTuple at h
  split at h
  · rename_i d
    rw [Option.map_eq_some_iff] at h
    obtain ⟨ys, h1, h2⟩ := h
    cases h2
    obtain ⟨v, e, r1⟩ := r.un1
    cases d with
    | tup zs =>
      cases h1
      obtain ⟨a, ws, e1, t, s⟩ := tup_ok hK r1
      exact ⟨a, ws, by rw [e, e1], .inr ⟨t, by rw [← e1]; exact q v H ρ (Le.refl _ _) sr r1⟩⟩
    | lst zs =>
      obtain ⟨a, ws, e1, t, s⟩ := listOf_ok sr r1 (show listOf st _ = some ys from h1)
      exact ⟨a, ws, by rw [e, e1], .inl ⟨.inl t, fun l hl => q _ _ ρ (sr.leLay hl) (sr.lay hl) (Rp.of_tup sr hl s)⟩⟩
    | loc n =>
      obtain ⟨a, ws, e1, t, s⟩ := listOf_ok sr r1 (show listOf st _ = some ys from h1)
      exact ⟨a, ws, by rw [e, e1], .inl ⟨.inl t, fun l hl => q _ _ ρ (sr.leLay hl) (sr.lay hl) (Rp.of_tup sr hl s)⟩⟩
    | _ => cases h1
  · cases h
/-- list(xs), a list that nobody changes; one that lives -/
def dList (xs : List D) (st : Store) : Option (D × Store) := match xs with
  | [d] => (seqOf st d).map fun ys => (.lst ys, st)
  | _ => none
def dListM (xs : List D) (st : Store) : Option (D × Store) := match xs with
  | [d] => (seqOf st d).map fun ys => (.loc st.length, st ++ [.lst ys])
  | _ => none
def rList (K : PySem.W.Frag) : List V → Hp → VK → Prop := fun xs H Q => ∃ p ys, xs = [V.ref p] ∧ (SqL K H p ys ∨ SqT K H p ys) ∧ ∀ l, H l = none → Q (.ref l) (upd H l (.lst ys))
theorem sc_list (hK : X.K = g.K) : SC g (rList X.K) dList := by
  intro xs z st st' ρ H vs Q sr r h q
  unfold dList at h
  split at h
  · rw [Option.map_eq_some_iff] at h
    obtain ⟨ys, h1, h2⟩ := h
    cases h2
    obtain ⟨v, e, r1⟩ := r.un1
    obtain ⟨a, ws, e1, t, s⟩ := seqOf_ok hK sr r1 h1
    exact ⟨a, ws, by rw [e, e1], t, fun l hl => q _ _ ρ (sr.leLay hl) (sr.lay hl) (Rp.of_lst sr hl s)⟩
  · cases h
theorem sc_listM (hK : X.K = g.K) : SC g (rList X.K) dListM := by
  intro xs z st st' ρ H vs Q sr r h q
  unfold dListM at h
  split at h
  · rw [Option.map_eq_some_iff] at h
    obtain ⟨ys, h1, h2⟩ := h
    cases h2
    obtain ⟨v, e, r1⟩ := r.un1
    obtain ⟨a, ws, e1, t, s⟩ := seqOf_ok hK sr r1 h1
    exact ⟨a, ws, by rw [e, e1], t, fun l hl => q _ _ (ρ.push l) (sr.leNew hl) (sr.newLst hl s) (Rp.of_loc sr)⟩
  · cases h
/-- str(n); int(truth), int(text) -/
def dStr (xs : List D) (st : Store) : Option (D × Store) := match xs with
  | [.int i] => if decide (i.natAbs.log2 < 1920) then some (.str (toString i), st) else none
  | _ => none
theorem sc_str : SC g (fun xs H Q => ∃ i, xs = [V.int i] ∧ i.natAbs.log2 < 1920 ∧ Q (.str (toString i)) H) dStr := by
  intro xs z st st' ρ H vs Q sr r h q
  unfold dStr at h
  split at h
  · obtain ⟨h4, h5⟩ := if_some h
    cases h5
    obtain ⟨v, e, r1⟩ := r.un1
    exact ⟨_, by rw [e, show v = _ from r1], of_decide_eq_true h4, q _ H ρ (Le.refl _ _) sr rfl⟩
  · cases h
def dInt (xs : List D) (st : Store) : Option (D × Store) := match xs with
  | [.int i] => some (.int i, st)
  | [.bl k] => some (.int (if k then 1 else 0), st)
  | [.str s] => if decide (s.length ≤ 640) then (PySem.intText? s).map fun n => (.int n, st) else none
  | _ => none
def rInt : List V → Hp → VK → Prop := fun xs H Q => ((∃ i, xs = [V.int i] ∧ Q (.int i) H) ∨ ∃ k, xs = [V.bl k] ∧ Q (.int (if k then 1 else 0)) H) ∨ ∃ a n, xs = [V.str a] ∧ PySem.intText? a = some n ∧ a.length ≤ 640 ∧ Q (.int n) H
theorem call_intAll : CallR X (.type "int") rInt := call_int1.or call_int_str
theorem sc_int : SC g rInt dInt := by
  intro xs z st st' ρ H vs Q sr r h q
  unfold dInt at h
  split at h
  · cases h
    obtain ⟨v, e, r1⟩ := r.un1
    exact .inl (.inl ⟨_, by rw [e, show v = _ from r1], q _ H ρ (Le.refl _ _) sr rfl⟩)
  · cases h
    obtain ⟨v, e, r1⟩ := r.un1
    exact .inl (.inr ⟨_, by rw [e, show v = _ from r1], q _ H ρ (Le.refl _ _) sr rfl⟩)
  · rename_i s
    by_cases hl : s.length ≤ 640
    · rw [decide_eq_true hl, if_pos rfl, Option.map_eq_some_iff] at h
      obtain ⟨n, h1, h2⟩ := h
      cases h2
      obtain ⟨v, e, r1⟩ := r.un1
      exact .inr ⟨s, n, by rw [e, show v = _ from r1], h1, hl, q _ H ρ (Le.refl _ _) sr rfl⟩
    · rw [decide_eq_false hl] at h; cases h
  · cases h
/-- all, any of a list of truths; sum of whole numbers -/
def dAll (xs : List D) (st : Store) : Option (D × Store) := match xs with
  | [d] => (listOf st d).bind fun ys => (blsOf ys).map fun bs => (.bl (bs.all id), st)
  | _ => none
def dAny (xs : List D) (st : Store) : Option (D × Store) := match xs with
  | [d] => (listOf st d).bind fun ys => (blsOf ys).map fun bs => (.bl (bs.any id), st)
  | _ => none
def dSum (xs : List D) (st : Store) : Option (D × Store) := match xs with
  | [d] => (listOf st d).bind fun ys => (intsOf ys).map fun bs => (.int bs.sum, st)
  | _ => none
theorem bindmap {α β γ : Type} {o : Option α} {u : α → Option β} {f : β → γ} {z : γ} (h : (o.bind fun a => (u a).map f) = some z) : ∃ a b, o = some a ∧ u a = some b ∧ f b = z := by
  cases o with
  | none => cases h
  | some a =>
    have h : (u a).map f = some z := h
    rw [Option.map_eq_some_iff] at h
    obtain ⟨b, h1, h2⟩ := h
    exact ⟨a, b, rfl, h1, h2⟩
theorem sc_all : SC g (rAll g.K) dAll := by
  intro xs z st st' ρ H vs Q sr r h q
  unfold dAll at h
  split at h
  · obtain ⟨ys, bs, h1, h2, h3⟩ := bindmap h
    cases h3
    obtain ⟨v, e, r1⟩ := r.un1
    obtain ⟨a, ws, e1, t, s⟩ := listOf_ok sr r1 h1
    exact ⟨a, bs, by rw [e, e1], by rw [← blsOf_ok s h2]; exact .inl t, q _ H ρ (Le.refl _ _) sr rfl⟩
  · cases h
theorem sc_any : SC g (rAny g.K) dAny := by
  intro xs z st st' ρ H vs Q sr r h q
  unfold dAny at h
  split at h
  · obtain ⟨ys, bs, h1, h2, h3⟩ := bindmap h
    cases h3
    obtain ⟨v, e, r1⟩ := r.un1
    obtain ⟨a, ws, e1, t, s⟩ := listOf_ok sr r1 h1
    exact ⟨a, bs, by rw [e, e1], by rw [← blsOf_ok s h2]; exact .inl t, q _ H ρ (Le.refl _ _) sr rfl⟩
  · cases h
theorem sc_sum : SC g (rSum g.K) dSum := by
  intro xs z st st' ρ H vs Q sr r h q
  unfold dSum at h
  split at h
  · obtain ⟨ys, bs, h1, h2, h3⟩ := bindmap h
    cases h3
    obtain ⟨v, e, r1⟩ := r.un1
    obtain ⟨a, ws, e1, t, s⟩ := listOf_ok sr r1 h1
    exact ⟨a, bs, by rw [e, e1], by rw [← intsOf_ok s h2]; exact .inl t, q _ H ρ (Le.refl _ _) sr rfl⟩
  · cases h
/-! ### isinstance -/
inductive Ty where
  | non | bl | int | str | tup | lst | dic
  deriving DecidableEq
def Ty.nm : Ty → String
  | .non => "NoneType" | .bl => "bool" | .int => "int" | .str => "str" | .tup => "tuple" | .lst => "list" | .dic => "dict"
/-- is a t a T -/
def Ty.sub : Ty → Ty → Bool
  | .bl, .int => true
  | a, b => decide (a = b)
theorem Ty.kit (a b : Ty) : kitB a.nm b.nm = some (Ty.sub a b) := by cases a <;> cases b <;> decide +kernel
def tyOf (st : Store) : D → Option Ty
  | .non => some .non
  | .bl _ => some .bl
  | .int _ => some .int
  | .str _ => some .str
  | .tup _ => some .tup
  | .lst _ => some .lst
  | .dic _ _ => some .dic
  | .loc n => match st[n]? with
    | some (.lst _) => some .lst
    | some (.dic _ _) => some .dic
    | _ => none
  | _ => none
theorem tyOf_ok {st : Store} (hK : X.K = g.K) (sr : SR g ρ st H) {d : D} {v : V} {t : Ty} (r : Rp g ρ H d v) (h : tyOf st d = some t) : TyX X.K H v (.type t.nm) := by
  cases d with
  | non => cases h; cases r; exact .base .non
  | bl b => cases h; cases r; exact .base (.bl b)
  | int b => cases h; cases r; exact .base (.int b)
  | str b => cases h; cases r; exact .base (.str b)
  | tup b =>
    cases h
    obtain ⟨a, vs, e, t, _⟩ := r
    subst e
    rcases t with ⟨_, t | ⟨o, t⟩⟩ | ⟨o, its, n, t, t2, _⟩
    · exact .base (.tup t)
    · exact .fTuple t
    · exact .kTuple (by rw [hK]; exact t) t2
  | lst b =>
    cases h
    obtain ⟨a, vs, e, ⟨_, t | ⟨o, t⟩⟩, _⟩ := r
    · subst e; exact .base (.lst t)
    · subst e; exact .base (.frz t)
  | dic ks b =>
    cases h
    obtain ⟨a, vs, e, _, t | ⟨o, t⟩, _⟩ := r
    · subst e; exact .base (.dK t)
    · subst e; exact .fDict t
  | loc n =>
    obtain ⟨a, e, hn⟩ := r
    subst e
    simp only [tyOf] at h
    cases hc : st[n]? with
    | none => rw [hc] at h; cases h
    | some c =>
      obtain ⟨a', e', q⟩ := sr.cell n c hc
      rw [hn] at e'
      cases e'
      rw [hc] at h
      cases c with
      | lst xs => cases h; obtain ⟨vs, q, _⟩ := q; exact .base (.lst q)
      | dic ks xs => cases h; obtain ⟨vs, q, _⟩ := q; exact .base (.dK q)
      | ins c fs xs => cases h
  | _ => cases h
def fIsi (T : Ty) (f : FE) : FE := fun σ st => (f σ st).bind fun d st1 => R.of ((tyOf st1 d).map fun t => (.bl (Ty.sub t T), st1))
theorem se_isi {T : Ty} {n : Str} {p p2 pos : Pos} {e : Expr} {f : FE} (he : SE g E X e f) (hg : Gl X "isinstance") (hm : X.mg "isinstance" = none) (hgT : Gl X n) (hmT : X.mg n = none) (hvT : bootBuiltins n = some (.type T.nm)) (hn : n ≠ "__name__" := by decide) (hnd : (n == ("__debug__" : Str)) = false := by decide)
    (hs : starEach [e, .Name n p2] X.env = (false, eval e X.env) :: starEach [.Name n p2] X.env := by rfl) (hpl : (backTo pos (starEach [.Name n p2] X.env)).any (·.1) = false := by rfl) :
    SE g E X (.Call (.Name "isinstance" p) [e, .Name n p2] [] pos) (fIsi T f) := .mk fun hK tk σ st σV H ρ Q er sr h =>
  mx_of (pe_callB call_isi hg hm (by decide +kernel) (pa_cons (pe_mx (e := e)) (pa_cons (pe_bltn (v := .ty T.nm) hgT hmT hvT rfl hn hnd) pa_nil) hs) (by decide) (by decide) hs hpl)
    (he hK tk σ st σV H ρ _ er sr (Ok1.bind h fun d st1 v H1 ρ1 l1 s1 r1 h1 => by
      obtain ⟨z, st', e1, q⟩ := h1.of
      rw [Option.map_eq_some_iff] at e1
      obtain ⟨t, e2, e3⟩ := e1
      cases e3
      exact ⟨v, .ty T.nm, .type t.nm, .type T.nm, _, rfl, .ty _, tyOf_ok hK s1 r1 e2, kit_ty (Ty.kit t T), q _ H1 ρ1 (Le.refl _ _) s1 rfl⟩))

/-! ### methods -/
def SM (g : G) (X : Cx) (r : V → List V → Hp → VK → Prop) (d : D → List D → Store → Option (D × Store)) : Prop := ∀ (x : D) (xs : List D) (z : D) (st st' : Store) (ρ : Pl) (H : Hp) (v : V) (vs : List V) (Q : VK), SR g ρ st H → Rp g ρ H x v → Rps g ρ H xs vs → d x xs st = some (z, st') →
  (∀ (u : V) (H' : Hp) (ρ' : Pl), Le ρ H ρ' H' → SR g ρ' st' H' → Rp g ρ' H' z u → Q u H') → r v vs H Q
def isTy (st : Store) (d : D) (T : Ty) : Bool := match T, d with
  | .str, .str _ => true
  | .lst, d => (listOf st d).isSome
  | _, _ => false
theorem isTy_ok {st : Store} (hK : X.K = g.K) (sr : SR g ρ st H) {d : D} {v : V} {T : Ty} (r : Rp g ρ H d v) (h : isTy st d T = true) : tyV X.K T.nm v H := by
  have viaL : T = .lst → (listOf st d).isSome = true → tyV X.K T.nm v H := fun e h => by
    subst e
    obtain ⟨xs, h1⟩ := Option.isSome_iff_exists.mp h
    obtain ⟨a, ws, e1, t, s⟩ := listOf_ok sr r h1
    subst e1
    exact .inl ⟨rfl, ws, .inl t⟩
  cases T with
  | str => cases d with
    | str s => cases r; rfl
    | _ => cases h
  | lst => exact viaL rfl h
  | _ => cases d <;> cases h
def fM0 (T : Ty) (d : D → List D → Store → Option (D × Store)) (f : FE) : FE := fun σ st => (f σ st).bind fun x st1 => if isTy st1 x T then R.of (d x [] st1) else .stk
def fM (T : Ty) (d : D → List D → Store → Option (D × Store)) (f : FE) (fa : FA) : FE := fun σ st => (f σ st).bind fun x st1 => if isTy st1 x T then (fa σ st1).bind fun xs st2 => R.of (d x xs st2) else .stk
section
variable {T : Ty} {o e : Expr} {es : List Expr} {name : Str} {apos cpos : Pos} {id : String} {r : V → List V → Hp → VK → Prop} {d : D → List D → Store → Option (D × Store)} {f : FE} {fa : FA}
theorem se_m0 (pa : PlainAttrs T.nm) (slot : Slot T.nm name id) (hty : typeOf (.builtin id) = pure (.type "method_descriptor")) (hm : MtR X id r) (hd : SM g X r d) (ho : SE g E X o f)
    (hbase : attributeBase o name X.env (eval o X.env) = eval o X.env := by rfl) (hline : (apos.endLine == cpos.line) = true := by rfl) : SE g E X (.Call (.Attribute o name apos) [] [] cpos) (fM0 T d f) := .mk fun hK tk σ st σV H ρ Q er sr h =>
  mx_of (pe_bm0 pa slot hty hm (pe_mx (e := o)) hbase hline) (ho hK tk σ st σV H ρ _ er sr (Ok1.bind h fun x st1 v H1 ρ1 l1 s1 r1 h1 => by
    by_cases ht : isTy st1 x T = true
    · rw [if_pos ht] at h1
      obtain ⟨z, st', e1, q⟩ := h1.of
      exact ⟨isTy_ok hK s1 r1 ht, hd x [] z st1 st' ρ1 H1 v [] Q s1 r1 rfl e1 q⟩
    · rw [if_neg ht] at h1; exact h1.elim))
theorem se_m (pa : PlainAttrs T.nm) (slot : Slot T.nm name id) (hty : typeOf (.builtin id) = pure (.type "method_descriptor")) (hm : MtR X id r) (hd : SM g X r d) (ho : SE g E X o f) (ha : SA g E X (e :: es) fa)
    (hbase : attributeBase o name X.env (eval o X.env) = eval o X.env := by rfl)
    (hfew : ((backTo cpos (starEach (e :: es) X.env)).all (fun x => !x.1) && (backToKw cpos (keywordEach [] X.env)).all (fun x => x.1.isSome) && decide ((e :: es).length + ([] : List Keyword).length + (if ([] : List Keyword).isEmpty then 0 else 1) < 30)) = true := by rfl)
    (hline : (apos.endLine == cpos.line) = true := by rfl) (hs : starEach (e :: es) X.env = (false, eval e X.env) :: starEach es X.env := by rfl) (hplain : (backTo cpos (starEach es X.env)).any (·.1) = false := by rfl) :
    SE g E X (.Call (.Attribute o name apos) (e :: es) [] cpos) (fM T d f fa) := .mk fun hK tk σ st σV H ρ Q er sr h =>
  mx_of (pe_bm pa slot hty hm (pe_mx (e := o)) (pa_mx (es := e :: es)) hbase hfew hline hs hplain) (ho hK tk σ st σV H ρ _ er sr (Ok1.bind h fun x st1 v H1 ρ1 l1 s1 r1 h1 => by
    by_cases ht : isTy st1 x T = true
    · rw [if_pos ht] at h1
      exact ⟨isTy_ok hK s1 r1 ht, ha hK tk σ st1 σV H1 ρ1 _ (er.mono l1) s1 (Ok1.bindA h1 fun xs st2 vs H2 ρ2 l2 s2 r2 h2 => by
        obtain ⟨z, st', e1, q⟩ := h2.of
        exact hd x xs z st2 st' ρ2 H2 v vs Q s2 (r1.mono l2) r2 e1 q)⟩
    · rw [if_neg ht] at h1; exact h1.elim))
end
def dUpper (x : D) (xs : List D) (st : Store) : Option (D × Store) := match x, xs with
  | .str s, [] => if small s.length then some (.str (Txt.upper s), st) else none
  | _, _ => none
def dLower (x : D) (xs : List D) (st : Store) : Option (D × Store) := match x, xs with
  | .str s, [] => if small s.length then some (.str (Txt.lower s), st) else none
  | _, _ => none
theorem small_5 {n : Nat} (h : small n = true) : n ≤ 5592405 := Nat.le_trans (of_decide_eq_true h) (by decide)
theorem small_24 {n : Nat} (h : small n = true) : n ≤ 16777216 := Nat.le_trans (of_decide_eq_true h) (by decide)
theorem sm_upper : SM g X (fun x xs H Q => ∃ a, x = V.str a ∧ xs = [] ∧ a.length ≤ 5592405 ∧ Q (.str (Txt.upper a)) H) dUpper := by
  intro x xs z st st' ρ H v vs Q sr r rs h q
  unfold dUpper at h
  split at h
  · obtain ⟨h4, h5⟩ := if_some h
    cases h5
    exact ⟨_, r, rs, small_5 h4, q _ H ρ (Le.refl _ _) sr rfl⟩
  · cases h
theorem sm_lower : SM g X (fun x xs H Q => ∃ a, x = V.str a ∧ xs = [] ∧ a.length ≤ 5592405 ∧ Q (.str (Txt.lower a)) H) dLower := by
  intro x xs z st st' ρ H v vs Q sr r rs h q
  unfold dLower at h
  split at h
  · obtain ⟨h4, h5⟩ := if_some h
    cases h5
    exact ⟨_, r, rs, small_5 h4, q _ H ρ (Le.refl _ _) sr rfl⟩
  · cases h
/-- s.index(t), where it is -/
def dIndex (x : D) (xs : List D) (st : Store) : Option (D × Store) := match x, xs with
  | .str s, [.str t] => match Builtin.Str.occurrences s t 0 s.length 1 with
    | i :: _ => some (.int (i : Nat), st)
    | [] => none
  | _, _ => none
theorem sm_index : SM g X (fun x xs H Q => ∃ a b i rest, x = V.str a ∧ xs = [V.str b] ∧ Builtin.Str.occurrences a b 0 a.length 1 = i :: rest ∧ Q (.int (i : Nat)) H) dIndex := by
  intro x xs z st st' ρ H v vs Q sr r rs h q
  unfold dIndex at h
  split at h
  · split at h
    · rename_i i rest he
      cases h
      obtain ⟨w, e, r1⟩ := rs.un1
      exact ⟨_, _, i, rest, r, by rw [e, show w = _ from r1], he, q _ H ρ (Le.refl _ _) sr rfl⟩
    · cases h
  · cases h
/-- sep.join(xs) -/
def dJoin (x : D) (xs : List D) (st : Store) : Option (D × Store) := match x, xs with
  | .str s, [d] => (seqOf st d).bind fun ys => (strsOf ys).bind fun ts => if small ((ts.map (·.length)).sum + ts.length * s.length) then some (.str (Txt.join s ts), st) else none
  | _, _ => none
theorem sm_join (hK : X.K = g.K) : SM g X (fun x xs H Q => ∃ a p, ∃ ys : List Str, x = V.str a ∧ xs = [V.ref p] ∧ (SqL X.K H p (ys.map V.str) ∨ SqT X.K H p (ys.map V.str)) ∧ (ys.map (·.length)).sum + ys.length * a.length ≤ 16777216 ∧ Q (.str (Txt.join a ys)) H) dJoin := by
  intro x xs z st st' ρ H v vs Q sr r rs h q
  unfold dJoin at h
  split at h
  · rename_i s d
    cases hs : seqOf st d with
    | none => rw [hs] at h; cases h
    | some ys =>
      rw [hs] at h
      have h : (strsOf ys).bind (fun ts => if small ((ts.map (·.length)).sum + ts.length * s.length) then some (D.str (Txt.join s ts), st) else none) = some (z, st') := h
      cases ht : strsOf ys with
      | none => rw [ht] at h; cases h
      | some ts =>
        rw [ht] at h
        obtain ⟨h4, h5⟩ := if_some (show (if small ((ts.map (·.length)).sum + ts.length * s.length) = true then some (D.str (Txt.join s ts), st) else none) = some (z, st') from h)
        cases h5
        obtain ⟨w, e, r1⟩ := rs.un1
        obtain ⟨a, ws, e1, t, s1⟩ := seqOf_ok hK sr r1 hs
        have ew := strsOf_ok s1 ht
        subst ew
        exact ⟨s, a, ts, r, by rw [e, e1], t, small_24 h4, q _ H ρ (Le.refl _ _) sr rfl⟩
  · cases h
/-- xs.append(d), xs.extend(ds) of a list that lives -/
def dAppend (x : D) (xs : List D) (st : Store) : Option (D × Store) := match x, xs with
  | .loc n, [d] => match st[n]? with
    | some (.lst ys) => if small ys.length then some (.non, st.set n (.lst (ys ++ [d]))) else none
    | _ => none
  | _, _ => none
theorem cell_lst {st : Store} (sr : SR g ρ st H) {n : Nat} {ys : List D} {v : V} (r : Rp g ρ H (.loc n) v) (h : st[n]? = some (.lst ys)) : ∃ a vs, v = .ref a ∧ ρ.lk[n]? = some a ∧ H a = some (.lst vs) ∧ Rps g ρ H ys vs := by
  obtain ⟨a, e, hn⟩ := r
  obtain ⟨a', e', vs, q1, q2⟩ := sr.cell n _ h
  rw [hn] at e'
  cases e'
  exact ⟨a, vs, e, hn, q1, q2⟩
theorem SR.setLst {st : Store} (sr : SR g ρ st H) {n : Nat} {a : Addr} {us vs : List V} {ds : List D} (hn : ρ.lk[n]? = some a) (ha : H a = some (.lst us)) (r : Rps g ρ H ds vs) : SR g ρ (st.set n (.lst ds)) (upd H a (.lst vs)) ∧ Le ρ H ρ (upd H a (.lst vs)) := by
  have l := sr.leWrite (o := .lst vs) lst_tbl (List.mem_of_getElem? hn)
  exact ⟨sr.write lst_tbl hn ha lst_tbl lst_code ⟨vs, upd_same, r.mono l⟩, l⟩
theorem sm_append : SM g X rAppend dAppend := by
  intro x xs z st st' ρ H v vs Q sr r rs h q
  unfold dAppend at h
  split at h
  · rename_i n d
    cases hc : st[n]? with
    | none => rw [hc] at h; cases h
    | some c =>
      rw [hc] at h
      cases c with
      | lst ys =>
        obtain ⟨h4, h5⟩ := if_some (show (if small ys.length = true then some (D.non, st.set n (.lst (ys ++ [d]))) else none) = some (z, st') from h)
        cases h5
        obtain ⟨a, us, e, hn, ha, s⟩ := cell_lst sr r hc
        obtain ⟨w, e1, r1⟩ := rs.un1
        obtain ⟨s', l'⟩ := sr.setLst hn ha (s.append (Rps.one r1))
        exact ⟨a, us, w, e, e1, ha, by rw [← s.length]; exact small_lt h4, q _ _ ρ l' s' rfl⟩
      | dic _ _ => cases h
      | ins _ _ _ => cases h
  · cases h
end Hw
/-! HwH: a list walked while an exception is handled; the def that names a refusal. -/
namespace Hw
open PySem PySem.Spec PyProof.Rows L2
section
variable {prog : Program} {w : World} {A : Around} {E : Value → Shared → Prop} {s : Shared}
/-- the end of a list's walk while x1 is handled -/
theorem list_end_hot {it l x1 : Addr} {i : Nat} {items : Array Value} {Q : Option Value → Shared → Prop} (hot : HotX.HotAt A x1 s.heap) (hni : x1 ≠ it) (hi : s.heap.IsListIter it l i) (hl : s.heap.IsList l items) (hx : items[i]? = none)
    (hQ : ∀ h' : Heap, (∀ b o, b ≠ it → s.heap.get? b = some o → h'.get? b = some o) → Q none { s with heap := h' }) : wpAny (model prog w) A (pyNext (.ref it)) Q E s := by
  obtain ⟨oi, gi, ci, di⟩ := id hi
  obtain ⟨oL, gL, cL, nL, dL⟩ := hl
  obtain ⟨hh, o1, v1, g1, d1, c1⟩ := hot
  unfold pyNext
  refine wpAny_bind (wpAny_attempt (wpAny_callSpecial?_slot (name := Str.ofString "__next__") hi.typeIs slot_listiter_next (wpAny_call_entry slot_listiter_next hi.typeIs entry_listiter_next ?_ (args_listiter_next _))))
  show wpAny _ _ (field (.ref it) 0 >>= _) _ _ s
  refine wpAny_bind (wpAny_field gi di (x := .ref l) rfl ?_)
  show wpAny _ _ (if (Value.ref l == Value.none) = true then _ else _) _ _ s
  rw [if_neg (show ¬ (Value.ref l == Value.none) = true from nofun)]
  show wpAny _ _ (field (.ref it) 1 >>= _) _ _ s
  refine wpAny_bind (wpAny_field gi di (x := .int i 0) rfl ?_)
  show wpAny _ _ (seqItems? (.ref l) >>= _) _ _ s
  refine wpAny_bind (wpAny_seqItems gL dL ?_)
  simp only [Int.toNat_natCast, hx]
  refine wpAny_bind (wpAny_rule (wpAny_bind (wpAny_setField gi di (by simp) ?_)))
  show wpAny _ _ (newExc (.type "StopIteration") [] >>= _) _ _ _
  refine wpAny_bind ?_
  simp only [newExc, newTuple]
  refine wpAny_bind (wpAny_newObj_type ?_ (by size_fits))
  refine wpAny_bind (m := firstArgMember _ _) (wpAny_of_eq (a := Value.none) (by first | rfl | (simp only [firstArgMember]; rfl)) ?_)
  refine wpAny_newObj_type ?_ (by size_fits)
  have gu : ∀ {b : Addr} {o : Obj}, b ≠ it → s.heap.get? b = some o → (s.heap.update it (Obj.mapFields (·.setIfInBounds 0 Value.none))).get? b = some o := fun {b o} hb e => by
    rw [Heap.get?_update_other _ _ (Ne.symm hb)]
    exact e
  refine HotX.raiseNew_hot ⟨hh, o1, v1, Heap.get?_push_of_some _ (Heap.get?_push_of_some _ (gu hni g1)), d1, c1⟩ (Nat.ne_of_lt (Heap.lt_size (Heap.get?_push_of_some _ (gu hni g1)))) (Heap.get?_push_size _ rfl) rfl (by first | (simp; done) | (simp; omega) | (simp only [Array.size_append]; simp; omega)) ?_
  refine wpAny_bind (wpAny_isInstance (T := "StopIteration") (b := true) ⟨_, Heap.get?_update_self _ (Heap.get?_push_size _ rfl) rfl, rfl⟩ isSubtype_stop ?_)
  refine wpAny_pure (hQ _ fun b o hb e => ?_)
  rw [Heap.get?_update_other _ _ (Nat.ne_of_gt (Heap.lt_size (Heap.get?_push_of_some _ (gu hb e))))]
  exact Heap.get?_push_of_some _ (Heap.get?_push_of_some _ (gu hb e))
/-- the walk of a list while x1 is handled -/
theorem walks_hot {x1 : Addr} {o1 : Obj} {v1 : Array Value} (hh : A.handled = some (.ref x1)) (d1 : o1.data = .fields v1) (c1 : v1[2]? = some .none) (I ax : Addr) (n1 : ax ≠ I) (n2 : x1 ≠ I) (items : Array Value) :
    Walks prog w A I [I, ax, x1] [I] items.size (fun i v => items[i]? = some v) (fun i h => h.IsListIter I ax i ∧ h.IsList ax items ∧ h.get? x1 = some o1) where
  sub := fun b hb => by
    rw [List.mem_singleton.mp hb]
    exact List.mem_cons_self
  frame := fun _ _ _ st hk => ⟨st.1.at fun o e => hk I (by simp) o e, st.2.1.at fun o e => hk ax (by simp) o e, hk x1 (by simp) _ st.2.2⟩
  item := fun i s Q E hi st hQ => by
    refine wpAny_pyNext_list_item st.1 st.2.1 (x := items[i]) (Array.getElem?_eq_getElem hi) fun h' it' sb => ?_
    exact hQ _ h' s.toks (Array.getElem?_eq_getElem hi) ⟨it', st.2.1.extBut sb.extBut n1, (sb.2 x1 n2).trans st.2.2⟩ fun b o hb e => sb.extBut b o (fun z => hb (by rw [z]; exact List.mem_cons_self)) e
  done := fun s Q E st hQ => list_end_hot ⟨hh, o1, v1, st.2.2, d1, c1⟩ n2 st.1 st.2.1 (Array.getElem?_eq_none (Nat.le_refl _)) fun h' k => hQ h' s.toks fun b o hb e => k b o (fun z => hb (by rw [z]; exact List.mem_cons_self)) e
  self := fun _ _ _ _ st hQ => wpAny_pyIter_listiter st.1 hQ
end
end Hw
/-! HwI: what a def does that is called while an exception is handled: sum, [int(x) for x in xs], isinstance, its own call. -/
namespace Hw
open PySem PySem.Spec PyProof.Rows L2
section
variable {X : Cx}
theorem hot_obj {pins : List (Addr × Obj)} {σ : L2.St} {H : Hp} {s : Shared} (hc : L2H.HotC X) (I : Inv X pins σ H s) : ∃ (x1 : Addr) (o1 : Obj) (v1 : Array Value), X.A.handled = some (.ref x1) ∧ s.heap.get? x1 = some o1 ∧ o1.data = .fields v1 ∧ v1[2]? = some .none := by
  obtain ⟨p, ⟨hh, v1, d1, c1⟩, hp⟩ := hc
  exact ⟨p.1, p.2, v1, hh, (I.pin p (List.mem_append_left _ hp)).1, d1, c1⟩
/-- sum of a list of whole numbers, hot -/
def rSumH : List V → Hp → VK → Prop := fun xs H Q => ∃ (a : Addr) (ns : List Int), xs = [V.ref a] ∧ Rd H a (.lst (ns.map V.int)) ∧ Q (.int ns.sum) H
theorem call_sumH (hc : L2H.HotC X) : CallR X (.builtin "sum") rSumH := by
  intro pins s σ H xs us Q I r h
  obtain ⟨a, ns, e0, hR, q⟩ := h
  subst e0
  rw [Vals.ref1 r]
  obtain ⟨z, its, n, rv, e⟩ := hR.ok I.hok
  obtain ⟨ps, ep⟩ := rv.ints.allInts.items
  have hn : numsOf (intItems ps).toList = ns := by rw [← ep]; exact rv.ints.numsOf
  rw [nums_intItems] at hn
  obtain ⟨x1, o1, v1, hh, g1, d1, c1⟩ := hot_obj hc I
  have hl : s.heap.IsList a its.toArray := ⟨_, e, rfl, n, rfl⟩
  refine call_sum_walkG (iter_any hl fun s₂ e2 st hlI => ?_)
  subst e2
  refine ⟨_, _, _, _, _, _, numAt ps, rfl, walks_hot (A := X.A.in1) hh d1 c1 _ a hlI (Nat.ne_of_lt (Heap.lt_size g1)) its.toArray, ⟨st.1, st.2, Heap.get?_push_of_some _ g1⟩, ?_, ?_, fun h' tk t' hk => ?_⟩
  · intro b hb
    have up : ∀ {c : Addr} {o : Obj}, s.heap.get? c = some o → c < (s.heap.push { cls := .type "list_iterator", data := .fields #[.ref a, .int 0 0] }).objs.size := fun {c o} g => by
      rw [Heap.size_push]
      exact Nat.lt_succ_of_lt (Heap.lt_size g)
    rcases List.mem_cons.mp hb with z | hb
    · rw [z]
      show _ < (s.heap.push _).objs.size
      rw [Heap.size_push]
      exact Nat.lt_succ_self _
    · rcases List.mem_cons.mp hb with z | hb
      · rw [z]; exact up e
      · rw [List.mem_singleton.mp hb]; exact up g1
  · intro i v hv
    rw [ep] at hv
    exact intItems_at hv
  · have z : preSum (numAt ps) its.toArray.size = ns.sum := by
      rw [ep, preSum_eq, List.take_of_length_le (by simp [intItems]), hn]
    rw [z]
    exact ⟨.int _, H, I.kept fun b o g => hk b o (fun m => by rw [List.mem_singleton.mp m] at g; exact absurd (Heap.lt_size g) (Nat.lt_irrefl _)) (Heap.get?_push_of_some _ g), ⟨_, rfl⟩, q⟩
/-- [int(x) for x in xs] of a list of truths, hot -/
def tIntsH (te : TE) : TE := fun σ H Q => te σ H fun x H' => ∃ (a : Addr) (bs : List Bool), x = .ref a ∧ Rd H' a (.lst (bs.map V.bl)) ∧ ∀ p, H' p = none → Q (.ref p) (upd H' p (.lst (bs.map fun b => V.int (if b then 1 else 0))))
theorem bls_at : ∀ {bs : List Bool} {its : List Value} {i : Nat} {v : Value}, Vals (bs.map V.bl) its → its[i]? = some v → ∃ b, bs[i]? = some b ∧ v = .bool b
  | [], _, _, _, .nil, h => by simp at h
  | b :: bs, _, 0, v, .cons r rs, h => by
    have h : some _ = some v := h
    cases h
    exact ⟨b, rfl, r⟩
  | b :: bs, _, i + 1, v, .cons r rs, h => bls_at (i := i) rs h
theorem bls_out {bs : List Bool} {vs : List Value} (h : Vals (bs.map V.bl) vs) : ∀ {ys : List Value}, Paired (fun v y => ∃ b t, v = Value.bool b ∧ y = Value.int (if b then 1 else 0) t) vs ys → Vals (bs.map fun b => V.int (if b then 1 else 0)) ys := by
  induction bs generalizing vs with
  | nil => cases h; intro ys p; cases p; exact .nil
  | cons b bs ih =>
    cases h with
    | cons r rs =>
      intro ys p
      cases p with
      | cons q p =>
        obtain ⟨b', t, e1, e2⟩ := q
        have e3 : Value.bool b = Value.bool b' := (show _ = Value.bool b from r).symm.trans e1
        cases e3
        exact .cons ⟨t, e2⟩ (ih rs p)
/-- a new object, at a place that was not there -/
theorem inv_lay {pins : List (Addr × Obj)} {σ : L2.St} {H : Hp} {s : Shared} {a : Addr} {o : HO} {t' : Nat} {h' : Heap} (I : Inv X pins σ H s) (k : ∀ b u, s.heap.get? b = some u → h'.get? b = some u) (hp : s.heap.get? a = none) (new : ObjOk X.prog X.w (upd H a o) h' a o) :
    Inv X pins σ (upd H a o) { s with heap := h', toks := t' } := by
  have hn := I.hok.gone hp
  have ne : ∀ b u, s.heap.get? b = some u → b ≠ a := fun b u e z => by rw [z, hp] at e; cases e
  refine I.un ⟨fun b u q _ _ _ => k b u q, fun b u q _ _ _ => ⟨u.slots, k b u q⟩, fun b u q n _ => (upd_ne (ne b u q)).trans n, fun b u q _ => ⟨u, k b u q⟩, fun b xs q => (upd_ne (ne_of_none q hn)).trans q, fun b u xs q => (upd_ne (ne_of_none q hn)).trans q, fun b ps q => ⟨#[], by rw [upd_ne (ne_of_none q hn), q]; simp⟩⟩ fun b u e => ?_
  by_cases hb : b = a
  · rw [hb, upd_same] at e
    cases e
    rw [hb]
    exact new
  · rw [upd_ne hb] at e
    exact (I.hok b u e).stay (fun c v _ q => k c v q) (fun c q => (upd_ne (ne_of_none q hn)).trans q) fun c xs q => (upd_ne (ne_of_none q hn)).trans q
theorem pe_intsH {te : TE} {iter : Expr} {x : Str} {px p1 p2 p3 pos : Pos} {scope : Scope} (hc : L2H.HotC X) (hi : PE X iter te) (hm : X.mg "int" = none) (hk : scope.kind = .function) (hx : scope.names.lookup x = some .local)
    (hno : ∀ y ∈ scope.names, y.2 ≠ .cell ∧ y.2 ≠ .free) (hnm : ∀ y ∈ scope.names, y.2 = .local → scope.names.lookup y.1 = some .local) (hg : List.lookup ("int" : Str) (relabel scope X.env).names = some NameKind.globalImplicit)
    (hd : (x == ("__debug__" : Str)) = false := by decide) (hs : ∀ z, foldedSetIterable iter X.env z = pure z := by intro _; rfl) :
    PE X (.ListComp (.Call (.Name "int" p1) [.Name x p2] [] p3) [⟨.Name x px, iter, [], 0⟩] scope pos) (tIntsH te) := by
  refine ⟨fun pins s σ H Q I h => ?_⟩
  refine wpAny_ListComp_free (fun _ => true) (fun v y => ∃ b t, v = Value.bool b ∧ y = Value.int (if b then 1 else 0) t) (closure_ok fun y hy e => absurd e (hno y hy).2) (fun y hy => (hno y hy).1) hk hnm hx (thn (hi.run pins s σ H _ I h) fun xv s1 hq => ?_) hs
  obtain ⟨v, H1, I1, rv, a, bs, e0, hR, q⟩ := hq
  subst e0
  have ea : xv = .ref a := rv
  subst ea
  obtain ⟨z, its, n, rs, e⟩ := hR.ok I1.hok
  obtain ⟨x1, o1, v1, hh, g1, d1, c1⟩ := hot_obj hc I1
  have hl : s1.heap.IsList a its.toArray := ⟨_, e, rfl, n, rfl⟩
  refine iter_any hl fun s₂ e2 st hlI => ?_
  subst e2
  have szl : its.toArray.size ≤ sizeLine := by
    rw [List.size_toArray, ← rs.length]
    exact z
  refine ⟨_, _, _, _, _, _, rfl, walks_hot hh d1 c1 _ a hlI (Nat.ne_of_lt (Heap.lt_size g1)) its.toArray, szl, ⟨st.1, st.2, Heap.get?_push_of_some _ g1⟩, ?_, ⟨fun C i v s₃ m₃ E' _ _ _ _ _ _ => wpAny_tests_nil ⟨rfl, s₃.heap, s₃.toks, rfl, fun b o g => g⟩, ?_⟩, ?_⟩
  · intro b hb
    have up : ∀ {c : Addr} {o : Obj}, s1.heap.get? c = some o → c < (s1.heap.push { cls := .type "list_iterator", data := .fields #[.ref a, .int 0 0] }).objs.size := fun {c o} g => by
      rw [Heap.size_push]
      exact Nat.lt_succ_of_lt (Heap.lt_size g)
    rcases List.mem_cons.mp hb with z | hb
    · rw [z]
      show _ < (s1.heap.push _).objs.size
      rw [Heap.size_push]
      exact Nat.lt_succ_self _
    · rcases List.mem_cons.mp hb with z | hb
      · rw [z]; exact up e
      · rw [List.mem_singleton.mp hb]; exact up g1
  · intro C i v s₃ m₃ E' _ hv _ hns hmx keep _
    obtain ⟨b, hb, ev⟩ := bls_at rs (show its[i]? = some v by simpa using hv)
    subst ev
    have kp : ∀ b o, X.base.get? b = some o → s₃.heap.get? b = some o := fun b o g => by
      have g1 := I1.bk b o g
      exact keep b o (fun m => by rw [List.mem_singleton.mp m] at g1; exact absurd (Heap.lt_size g1) (Nat.lt_irrefl _)) (Heap.get?_push_of_some _ g1)
    obtain ⟨mb, h1, h2⟩ := I1.mod.blt
    have kf : (compEnvC scope (cloFrom X.env.cells scope.names []) C X.env).scope.kind = .function := hk
    have kx : (compEnvC scope (cloFrom X.env.cells scope.names []) C X.env).kindOf x = some .local := lookup_relabel_local hx
    refine Call_ (Calls.Name_function_global (x := ("int" : Str)) kf hg (Calls.loadGlobal_builtin (v := .type "int") (by rw [show (compEnvC scope (cloFrom X.env.cells scope.names []) C X.env).globals = _ from I1.ok.glob]; exact I1.mod.glob.keeps kp) hm (by rw [show (compEnvC scope (cloFrom X.env.cells scope.names []) C X.env).builtins = _ from I1.ok.blt]; exact h1.keeps kp) ((h2 _ (by decide)).trans (by decide)) ?_) (by decide))
    refine PyProof.Rows.callWith_type1 (args_cons (wpAny_Name (wpAny_loadName_local kf kx hns hmx (args_nil ?_)) hd))
    exact call_int_bool ⟨⟨b, _, rfl, rfl⟩, _, _, rfl, fun b o g => g⟩
  · intro D h' tk ys vs hD hl' hp hlen hP hF keep
    have ev : vs = its := by simpa using list_of_places hlen hP
    subst ev
    have fl : List.filter (fun _ => true) vs = vs := List.filter_eq_self.mpr fun _ _ => rfl
    rw [fl] at hF
    have hv := bls_out rs hF
    obtain ⟨n2, e3⟩ := hp
    have old : ∀ b o, s1.heap.get? b = some o → h'.get? b = some o := fun b o g => keep b o (fun m => by rw [List.mem_singleton.mp m] at g; exact absurd (Heap.lt_size g) (Nat.lt_irrefl _)) (Heap.get?_push_of_some _ g)
    have gD : s1.heap.get? D = none := by
      cases g : s1.heap.get? D with
      | none => rfl
      | some o => exact absurd ((Heap.get?_push_of_some _ g).symm.trans hD) (fun e => nomatch e)
    have zl : (bs.map fun b => V.int (if b then 1 else 0)).length ≤ sizeLine := by
      rw [List.length_map]
      rw [List.length_map] at z
      exact z
    have J := inv_lay (t' := tk) I1 old gD (o := .lst (bs.map fun b => V.int (if b then 1 else 0))) ⟨zl, ys.toList, n2, hv, e3⟩
    exact ⟨.ref D, _, J, rfl, q D (I1.hok.gone gD)⟩
end
end Hw
/-! HwJ: a def that is called while an exception is handled, with that exception; told(lambda: ..). -/
namespace Hw
open PySem PySem.Spec PyProof.Rows L2
variable {g : G} {ρ ρ' ρ'' : Pl} {H H' H'' : Hp} {E : XK} {X : Cx}

/-! ### rules for the hot body -/
/-- the refusal itself, as a value: .fn 999 -/
def fIsx (b : Bool) (f : FE) : FE := fun σ st => (f σ st).bind fun d st1 => match d with
  | .fn 999 => .ok (.bl b) st1
  | _ => .stk
theorem call_isX {a D : Addr} {oe : Obj} (C : ExcC X.K D) (hp : (a, oe) ∈ X.pn) (hz : Zc (.ref D) none oe) (hf : ∃ vs, oe.data = .fields vs) : CallR X (.builtin "isinstance") (rIsE X.K D a) := by
  intro pins s σ H xs us Q I r h
  obtain ⟨c, cv, b, e0, hcv, ek, q⟩ := h
  subst e0
  have hget := (I.pin (a, oe) (List.mem_append_left _ hp)).1
  obtain ⟨vs, hv⟩ := hf
  have J : PySem.W.InstAt s.heap a oe D none := ⟨hget, hz.1, by unfold PySem.W.notCls; rw [show (a, oe).2.data = _ from hv], by rw [show (a, oe).2.dict = _ from hz.2]; trivial⟩
  match us, r with
  | _, .cons rx (.cons rt .nil) =>
    have e1 := hcv _ rt
    have e2 : _ = Value.ref a := rx
    subst e1 e2
    exact PySem.W.kia_one (PySem.W.handS_kitx_exc C.hg C.hk C.hs C.hd C.ha C.hn C.ht C.hm) I.kIn J ek (fun z => nomatch z) fun tk => ⟨.bl b, H, I.kept (t' := tk) fun _ _ z => z, rfl, q⟩
theorem se_isx {a D : Addr} {oe : Obj} {b : Bool} {n : Str} {c : V} {cv : Value} {p p2 pos : Pos} {e : Expr} {f : FE} (C : ExcC X.K D) (hp : (a, oe) ∈ X.pn) (hz : Zc (.ref D) none oe) (hf : ∃ vs, oe.data = .fields vs) (hfa : g.fa 999 = a)
    (hg : Gl X "isinstance") (hm : X.mg "isinstance" = none) (hc : PE X (.Name n p2) (tC c)) (hcv : ∀ u, RelV c u → u = cv) (hk : PySem.W.kitOne X.K (.ref D) cv = some b) (he : SE g E X e f)
    (hs : starEach [e, .Name n p2] X.env = (false, eval e X.env) :: starEach [.Name n p2] X.env := by rfl) (hpl : (backTo pos (starEach [.Name n p2] X.env)).any (·.1) = false := by rfl) :
    SE g E X (.Call (.Name "isinstance" p) [e, .Name n p2] [] pos) (fIsx b f) := .mk fun hK tk σ st σV H ρ Q er sr h =>
  mx_of (pe_callB (call_isX C hp hz hf) hg hm (by decide +kernel) (pa_cons (pe_mx (e := e)) (pa_cons hc pa_nil) hs) (by decide) (by decide) hs hpl)
    (he hK tk σ st σV H ρ _ er sr (Ok1.bind h fun d st1 v H1 ρ1 l1 s1 r1 h1 => by
      split at h1
      · have r1 : v = .ref (g.fa 999) := r1
        exact ⟨c, cv, b, by rw [r1, hfa], hcv, hk, h1 _ H1 ρ1 (Le.refl _ _) s1 rfl⟩
      · exact h1.elim))
/-- [int(x) for x in xs] -/
def fIntsH (f : FE) : FE := fun σ st => (f σ st).bind fun d st1 => match (listOf st1 d).bind blsOf with
  | some bs => .ok (.lst (bs.map fun b => .int (if b then 1 else 0))) st1
  | none => .stk
theorem Rps.of_bits : ∀ bs : List Bool, Rps g ρ H (bs.map fun b => D.int (if b then 1 else 0)) (bs.map fun b => V.int (if b then 1 else 0))
  | [] => rfl
  | b :: bs => ⟨.int (if b then 1 else 0), _, rfl, rfl, Rps.of_bits bs⟩
theorem se_intsH {iter : Expr} {f : FE} {x : Str} {px p1 p2 p3 pos : Pos} {scope : Scope} (hc : L2H.HotC X) (hi : SE g E X iter f) (hm : X.mg "int" = none) (hk : scope.kind = .function) (hx : scope.names.lookup x = some .local)
    (hno : ∀ y ∈ scope.names, y.2 ≠ .cell ∧ y.2 ≠ .free) (hnm : ∀ y ∈ scope.names, y.2 = .local → scope.names.lookup y.1 = some .local) (hg : List.lookup ("int" : Str) (relabel scope X.env).names = some NameKind.globalImplicit)
    (hd : (x == ("__debug__" : Str)) = false := by decide) (hs : ∀ z, foldedSetIterable iter X.env z = pure z := by intro _; rfl) :
    SE g E X (.ListComp (.Call (.Name "int" p1) [.Name x p2] [] p3) [⟨.Name x px, iter, [], 0⟩] scope pos) (fIntsH f) := .mk fun hK tk σ st σV H ρ Q er sr h =>
  mx_of (pe_intsH hc (pe_mx (e := iter)) hm hk hx hno hnm hg hd hs) (hi hK tk σ st σV H ρ _ er sr (Ok1.bind h fun d st1 v H1 ρ1 l1 s1 r1 h1 => by
    split at h1
    · rename_i bs hb
      rw [Option.bind_eq_some_iff] at hb
      obtain ⟨ys, e1, e2⟩ := hb
      obtain ⟨a, vs, ev, t, s⟩ := listOf_ok s1 r1 e1
      rw [blsOf_ok s e2] at t
      exact ⟨a, bs, ev, t, fun p hp => h1 _ _ ρ1 (s1.leLay hp) (s1.lay hp) (Rp.of_lst s1 hp (Rps.of_bits bs))⟩
    · exact h1.elim))
theorem sc_sumH : SC g rSumH dSum := by
  intro xs z st st' ρ H vs Q sr r h q
  unfold dSum at h
  split at h
  · obtain ⟨ys, bs, h1, h2, h3⟩ := bindmap h
    cases h3
    obtain ⟨v, e, r1⟩ := r.un1
    obtain ⟨a, ws, e1, t, s⟩ := listOf_ok sr r1 h1
    rw [intsOf_ok s h2] at t
    exact ⟨a, bs, by rw [e, e1], t, q _ H ρ (Le.refl _ _) sr rfl⟩
  · cases h
/-- xs.index(y), flat items -/
def D.flat : D → Option V
  | .non => some .non
  | .bl b => some (.bl b)
  | .int i => some (.int i)
  | .str s => some (.str s)
  | _ => none
def flats : List D → Option (List V)
  | [] => some []
  | x :: r => (D.flat x).bind fun v => (flats r).map (v :: ·)
theorem flat_ok {d : D} {v w : V} (r : Rp g ρ H d v) (h : D.flat d = some w) : v = w ∧ flatV w = true := by cases d <;> first | (cases h; cases r; exact ⟨rfl, rfl⟩) | cases h
theorem flats_ok : ∀ {ds : List D} {vs ws : List V}, Rps g ρ H ds vs → flats ds = some ws → vs = ws ∧ ws.all flatV = true
  | [], vs, ws, r, h => by cases h; exact ⟨r, rfl⟩
  | d :: ds, vs, ws, r, h => by
    simp only [flats, Option.bind_eq_some_iff, Option.map_eq_some_iff] at h
    obtain ⟨v, h1, r2, h2, e⟩ := h
    obtain ⟨v', vs', e1, q1, q2⟩ := r
    obtain ⟨a, b⟩ := flat_ok q1 h1
    obtain ⟨c, d⟩ := flats_ok q2 h2
    subst e e1 a c
    exact ⟨rfl, by rw [List.all_cons, b, d] <;> rfl⟩
def firstEq (w : V) : List V → Option Nat
  | [] => none
  | z :: r => if eqV z w then some 0 else (firstEq w r).map (· + 1)
theorem firstEq_ok {w : V} : ∀ {ws : List V} {j : Nat}, firstEq w ws = some j → ∃ z, ws[j]? = some z ∧ eqV z w = true ∧ ∀ (m : Nat) (z' : V), m < j → ws[m]? = some z' → eqV z' w = false
  | [], _, h => by cases h
  | z :: r, j, h => by
    simp only [firstEq] at h
    by_cases hz : eqV z w = true
    · rw [if_pos hz] at h
      cases h
      exact ⟨z, rfl, hz, fun m _ hm => absurd hm (Nat.not_lt_zero m)⟩
    · rw [if_neg hz, Option.map_eq_some_iff] at h
      obtain ⟨i, h1, e⟩ := h
      subst e
      obtain ⟨y, a, b, c⟩ := firstEq_ok h1
      refine ⟨y, by simpa using a, b, fun m z' hm e => ?_⟩
      cases m with
      | zero =>
        have e : some z = some z' := e
        cases e
        exact Bool.eq_false_iff.mpr hz
      | succ m => exact c m z' (by omega) (by simpa using e)
def dIndexL (x : D) (xs : List D) (st : Store) : Option (D × Store) := match xs with
  | [d] => (listOf st x).bind fun ys => (flats ys).bind fun ws => (D.flat d).bind fun w => (firstEq w ws).map fun j => (.int (j : Nat), st)
  | _ => none
theorem sm_indexL : SM g X (rIndex X.K) dIndexL := by
  intro x xs z st st' ρ H v vs Q sr r rs h q
  unfold dIndexL at h
  split at h
  · simp only [Option.bind_eq_some_iff, Option.map_eq_some_iff] at h
    obtain ⟨ys, h1, ws, h2, w, h3, j, h4, e⟩ := h
    cases e
    obtain ⟨u, eu, r1⟩ := rs.un1
    obtain ⟨a, us, e1, t, s⟩ := listOf_ok sr r h1
    obtain ⟨ew, fw⟩ := flats_ok s h2
    obtain ⟨e2, f2⟩ := flat_ok r1 h3
    subst ew e2
    obtain ⟨y, b1, b2, b3⟩ := firstEq_ok h4
    exact ⟨a, us, u, j, y, e1, eu, .inl t, f2, fw, b1, b2, b3, q _ H ρ (Le.refl _ _) sr rfl⟩
  · cases h

/-! ### its call -/
/-- a def's promise, for the one exception p -/
structure FnX (P : Program) (w : World) (K : PySem.W.Frag) (mg : Str → Option Value) (base : Heap) (k : Nat) (f : Addr) (fd : FuncData) (ps : List Str) (p : Addr × Obj) (sp : List V → Hp → VK → Prop) : Prop where
  len : ∀ vs H Q, sp vs H Q → vs.length = ps.length
  run : ∀ (A : Around) (outer : List PySem.Env) (s : Shared) (H : Hp) (args : Args) (us : List Value) (vs : List V) (Q : VK), L2H.RoomH k A → L2H.Hot1 A p → L2H.PinOk outer H s p → Env0 P w K mg base A outer s H → BindsTo s fd args (ps.zip us) → Vals vs us → sp vs H Q →
    codeAny (model P w) A (.call (.ref f) args) (CR (L2N.CX P w) outer P w H s Q E0) s
section
variable {P : Program} {w : World} {mg : Str → Option Value} {base : Heap}
theorem fnX_of {K : PySem.W.Frag} {k : Nat} {f : Addr} {name qual : Str} {params : Arguments} {body : List Stmt} {scope : Scope} {dV kV doc pm cdv ct oc : Value} {an od : Option Addr} {osl : Array (Option Value)} {N ps : List Str} {p : Addr × Obj} {sp : List V → Hp → VK → Prop}
    (lk : K.lookup f = some ⟨oc, od, .func (PySem.W.fnOf name qual params body scope dV kV doc pm an cdv ct), osl⟩) (hcd : PySem.W.codeIn K cdv qual = true) (S : FnScope N ps scope) (len : ∀ vs H Q, sp vs H Q → vs.length = ps.length)
    (hbody : ∀ (A : Around) (outer : List PySem.Env) (s : Shared) (H : Hp) (vs : List V) (Q : VK), L2H.Hot1 A p → L2H.RoomH k (A.deeper (envOfC qual scope s.heap.objs.size f cdv)) → sp vs H Q →
      ∃ t, PSs (L2H.cxH (L2N.CX P w) P w K mg base N qual scope f cdv A outer s H E0 p) body t ∧ t { nx := fun _ H' => Q .non H', rt := Q } (L2.start N vs) H) :
    FnX P w K mg base (k + 1) f (PySem.W.fnOf name qual params body scope dV kV doc pm an cdv ct) ps p sp where
  len := len
  run := fun A outer s H args us vs Q hr hot hpin e0 hb r hsp => by
    have hl := len _ _ _ hsp
    have up : ∀ b o, base.get? b = some o → s.heap.get? b = some o := fun b o e => (e0.bs b o e).1
    have KX : K.In s.heap := e0.mod.kin.keeps up
    refine codeAny_call_function hr.depth (KX _ _ lk) rfl S.co S.gen rfl (PySem.W.codeRec_of KX hcd) (hb _ _ _ _ (wpAny_newFunctionEnv_cells S.kind ?_ fun env he s1 x => ?_))
    · rintro ⟨n, v⟩ hy
      exact (S.par n (List.of_mem_zip hy).1).imp id fun q => ⟨q, PySem.W.cellsFrom_some _ _ _ (.inl q)⟩
    · subst he
      refine ⟨(e0.mod.nolimit.keeps up).keeps x.toInCall.keep, codeAny_func ?_⟩
      obtain ⟨t, ht, hq⟩ := hbody A outer s H vs Q hot (hr.deeper _) hsp
      refine wpAny_mono (ht.run [] s1 (L2.start N vs) H _ (L2H.inv_startH S hpin e0 hl r x) hq) (fun fl s' hs => ?_) fun e s' hs => hs
      match fl, hs with
      | .ret u, ⟨v, σ', H', J, rv, q⟩ => exact ⟨v, H', J.os, J.bare, J.base, J.hok, rv, q⟩
      | .next, ⟨σ', H', J, q⟩ => exact ⟨.non, H', J.os, J.bare, J.base, J.hok, rfl, q⟩
      | .brk, ⟨_, _, _, q⟩ => exact False.elim q
      | .cont, ⟨_, _, _, q⟩ => exact False.elim q
/-- what the word def promises: the word, all as it was -/
def spW (g : G) (wd : Str) (p : Addr × Obj) : List V → Hp → VK → Prop := fun vs H Q => vs = [.ref p.1] ∧ ∃ (ρ : Pl) (st : Store), SR g ρ st H ∧ ∀ H', Le ρ H ρ H' → SR g ρ st H' → Q (.str wd) H'
def gX (g : G) (a : Addr) : G := { g with fa := fun n => if n = 999 then a else g.fa n }
theorem gX_at (g : G) (a : Addr) : (gX g a).fa 999 = a := by
  show (if 999 = 999 then a else g.fa 999) = a
  exact if_pos rfl
theorem SR.alone {st : Store} (s : SR g ρ st H) (a : Addr) : SR (gX g a) ⟨[], ρ.lk ++ ρ.ex⟩ [] H := by
  refine ⟨rfl, List.nodup_nil, fun _ _ z => (by cases z), fun b hb => ?_, fun n c h => by simp at h, s.tabs⟩
  exact (List.mem_append.mp hb).elim s.live (s.hidT b)
theorem Le.alone {st st' : Store} {g' : G} (s : SR g ρ st H) (l : Le ⟨[], ρ.lk ++ ρ.ex⟩ H ρ' H') (s' : SR g' ρ' st' H') (hT : g'.T = g.T) : Le ρ H ρ H' ∧ SR g ρ st H' := by
  have le : Le ρ H ρ H' := ⟨⟨[], by simp, by simp⟩, rfl, fun a u h n q => l.keep a u h (fun z => by cases z) q, fun a ha => l.hidk a (List.mem_append_right _ ha), l.dom, l.fz⟩
  refine ⟨le, s.len, s.nd, s.hid, fun a h => l.dom a (s.hidT a h), fun n c h => ?_, by rw [← hT]; exact s'.tabs⟩
  obtain ⟨a, e, q⟩ := s.cell n c h
  exact ⟨a, e, q.mono le (l.hidk a (List.mem_append_left _ (List.mem_of_getElem? e)))⟩
theorem fnX_ok {x qual : Str} {s : Stmt} {fa : Addr} {fd : FuncData} {N ps : List Str} {k : Nat} {f : FS} {p : Addr × Obj} {wd : Str} {st' : Store} (F : Fun g.K x qual s fa fd) (S : FnScope N ps (defScope s)) (hps : ps.length = 1)
    (hbody : ∀ (cdv : Value) (A : Around) (outer : List PySem.Env) (s1 : Shared) (H : Hp), L2H.Hot1 A p → L2H.RoomH k (A.deeper (envOfC qual (defScope s) s1.heap.objs.size fa cdv)) → SB (gX g p.1) E0 (L2H.cxH (L2N.CX P w) P w g.K mg base N qual (defScope s) fa cdv A outer s1 H E0 p) (defBody s) f)
    (hf : f (startD N.length [.fn 999]) [] = .rt (.str wd) st') : FnX P w g.K mg base (k + 1) fa fd ps p (spW g wd p) := by
  obtain ⟨oc, od, kV, doc, pm, an, cdv, ct, osl, e, lk, hcd⟩ := F.ex
  subst e
  refine fnX_of lk hcd S (fun vs H Q h => by rw [h.1, hps] <;> rfl) fun A outer s1 H vs Q hot hr h => ?_
  obtain ⟨ev, ρ, st, sr, q⟩ := h
  subst ev
  have r0 : Rps (gX g p.1) ⟨[], ρ.lk ++ ρ.ex⟩ H [.fn 999] [.ref p.1] := ⟨.ref p.1, [], rfl, (show V.ref p.1 = .ref (if 999 = 999 then p.1 else g.fa 999) from by rw [if_pos rfl]), rfl⟩
  refine ⟨_, pss_mx, hbody cdv A outer s1 H hot hr rfl tk0 _ [] _ H _ _ (er_start r0) (sr.alone p.1) ?_⟩
  rw [hf]
  intro v H' ρ' l s' r
  obtain ⟨le, s2⟩ := Le.alone sr l s' rfl
  have r : v = .str wd := r
  rw [r]
  exact q H' le s2
end
section
variable {k : Nat} {f : Addr} {fd : FuncData} {ps : List Str} {p : Addr × Obj} {sp : List V → Hp → VK → Prop} {x : Str} {q pos : Pos} {e : Expr} {es : List Expr} {t : TA}
theorem pe_callX (F : FnX X.prog X.w X.K X.mg X.base k f fd ps p sp) (hr : L2H.RoomH k X.A) (hot : L2H.Hot1 X.A p) (hp : p ∈ X.pn) (hg : Gl X x) (hm : X.mg x = some (.ref f)) (hk : PySem.W.keepIn X.K (.ref f) = true) (hb : L2.Binds X.K fd ps []) (ha : PA X (e :: es) t)
    (hdb : (x == ("__debug__" : Str)) = false := by decide) (he : starEach (e :: es) X.env = (false, eval e X.env) :: starEach es X.env := by rfl) (hpl : (backTo pos (starEach es X.env)).any (·.1) = false := by rfl) :
    PE X (.Call (.Name x q) (e :: es) [] pos) (fun σ H Q => t σ H fun vs H1 => sp vs H1 Q) := by
  refine ⟨fun pins s σ H Q I h => wpAny_Call_Name_kw (ld_glob I hg hm (PySem.W.callWith_K (h₀ := X.base) I.ok.mod.kin hk (thn (ha.run pos pins s σ H _ I h) fun us s1 hq => ?_) he hpl) hdb)⟩
  obtain ⟨vs, H1, I1, r, h1⟩ := hq
  refine ⟨I1.kIn, ?_⟩
  have b := hb s1 us I1.kIn (by rw [List.append_nil, ← r.length]; exact F.len _ _ _ h1)
  rw [List.append_nil] at b
  have P1 := I1.pin p (List.mem_append_left _ hp)
  have hpin : L2H.PinOk X.stack H1 s1 p := ⟨P1.1, P1.2.1, fun hm => (List.mem_cons.mp (I1.stkSub p.1 hm)).elim P1.2.2.1 P1.2.2.2.1, P1.2.2.2.2⟩
  refine wpAny_call (codeAny_mono (F.run X.A X.stack s1 H1 ⟨us, []⟩ us vs Q hr hot hpin I1.env0 b r h1) fun r s' hq => ?_)
  match r, hq with
  | .error e, hq => exact L2N.passAt (W := fun _ _ _ _ => False) tk0 σ pins H1 s1 e s' I1 hq
  | .ok (.ret u), hq => exact I1.after hq
  | .ok .next, hq => exact False.elim hq
  | .ok .brk, hq => exact False.elim hq
  | .ok .cont, hq => exact False.elim hq
end
end Hw
/-! HwT: told(lambda: ..): a def that calls what it got and tells the refusal's word. -/
namespace Hw
open PySem PySem.Spec PyProof.Rows L2
variable {g : G} {ρ ρ' ρ'' : Pl} {H H' H'' : Hp} {E : XK} {X : Cx}
/-- the context of a lambda's body -/
abbrev lamN (X : Cx) (A : Around) (outer : List PySem.Env) (s : Shared) (H : Hp) (E : XK) (scope : Scope) (f c' : Addr) : Cx :=
  (LamX.lamCx X A outer s H E scope f c').wish fun e s' => wpAny (model X.prog X.w) (A.deeper (LamX.lamEnv X scope s.heap.objs.size f c')) (leaving (LamX.lamEnv X scope s.heap.objs.size f c') e) (fun _ s'' => L2N.CX X.prog X.w outer H s E e s'') (fun e' s'' => L2N.CX X.prog X.w outer H s E e' s'') s'
theorem takesLen {W : WX} (tk : L2N.Takes X W) : L2N.Takes X (fun c d σ H => σ.length = X.N.length → W c d σ H) := fun u s' x => by
  obtain ⟨a, B, sI, pins, σ, H, cls, d, e, I, nb, up, sky, na, os, ag, w⟩ := x
  exact tk u s' ⟨a, B, sI, pins, σ, H, cls, d, e, I, nb, up, sky, na, os, ag, w I.len⟩
/-- a() in the def that got the lambda -/
theorem pe_actN {pins : List (Addr × Obj)} {σ : L2.St} {H : Hp} {s : Shared} {CXg : CXT} {Eg : XK} {Ng : List Str} {qg : Str} {sg : Scope} {gf f c' : Addr} {cdg pm ctv : Value} {params : Arguments} {body : Expr} {scope : Scope} {k i : Nat} {a : Str} {pn : List (Addr × Obj)} {xe : Value → Shared → Prop} {W : WX} {tb : TE} {p1 p2 : Pos}
    (I : Inv X pins σ H s) (L : LamX.LamS X.env.scope scope) (hf : s.heap.get? f = some (PySem.W.kla_obj "<lambda>" (X.env.qual ++ "<lambda>") params body scope (cloFrom X.env.cells scope.names []) pm c' ctv)) (hfn : H f = none) (hfr : f ∉ frs X.stack)
    (hbind : bindArgs (PySem.W.kla_fn "<lambda>" (X.env.qual ++ "<lambda>") params body scope (cloFrom X.env.cells scope.names []) pm (.ref c') ctv) ⟨[], []⟩ = pure [])
    (tk : L2N.Takes ((cxOf CXg X.prog X.w X.K X.mg X.base Ng qg sg gf cdg X.A X.stack s H Eg).tr pn xe) W) (hW : ∀ cls d σ' H', E cls d H' → W cls d σ' H') (hr : Room (k + 1) (X.A.deeper (envOfC qg sg s.heap.objs.size gf cdg)))
    (hbody : ∀ (A : Around) (outer : List PySem.Env) (s : Shared) (H : Hp), Room k (A.deeper (LamX.lamEnv X scope s.heap.objs.size f c')) → PE (lamN X A outer s H E scope f c') body tb)
    (hN : Ng[i]? = some a) (hv : Vis sg a) (hd : (a == ("__debug__" : Str)) = false) (hcd : (a == ("__classdict__" : Str)) = false) :
    PE ((cxOf CXg X.prog X.w X.K X.mg X.base Ng qg sg gf cdg X.A X.stack s H Eg).tr pn xe) (.Call (.Name a p1) [] [] p2)
      (fun σZ HZ Q => σZ[i]? = some (some (.ref f)) ∧ HZ c' = some (LamX.CodeO c' (X.env.qual ++ "<lambda>")) ∧ tb σ HZ Q) := by
  constructor
  rintro pinsZ sZ σZ HZ Q IZ ⟨hs, hc, ht⟩
  refine wpAny_Call_Name_kw (thn ((pe_var (pos := p1) (i := i) hN hv hd hcd).run pinsZ sZ σZ HZ (fun v H1 => v = .ref f ∧ H1 = HZ) IZ ⟨.ref f, hs, rfl, rfl⟩) ?_)
  rintro u s1 ⟨v, H1, I1, r1, ev, eH⟩
  subst ev eH
  have eu : u = Value.ref f := r1
  subst eu
  have fo := I1.base.keep f _ hf hfn hfr (fun z => nomatch (show f ∈ ([] : List Addr) from z))
  have un : Un (frs X.stack) [] H H1 s.heap s1.heap := I1.base
  obtain ⟨⟨oc, vs, t, hoc, hdc, hvc⟩, _, _⟩ := I1.hok c' _ hc
  refine PySem.W.callWith_F0 ⟨_, _, _, _, fo⟩ (wpAny_call (codeAny_mono (R := CR (L2N.CX X.prog X.w) (envOfC qg sg s.heap.objs.size gf cdg :: X.stack) X.prog X.w H1 s1 Q E) ?_ fun r s' hq => ?_))
  · refine PySem.W.kla_callFunE hr.depth fo rfl L.co L.gen rfl ⟨c', oc, vs, t, rfl, hoc, hdc, hvc⟩ ?_
    refine wpAny_of_eq (a := []) hbind (wpAny_newFunctionEnv (fun y hy => (L.own y hy).2) (fun y hy => absurd hy (by simp)) (fun h₁ hns hsb => ?_) L.kind)
    have kp : ∀ b o, s1.heap.get? b = some o → h₁.get? b = some o := fun b o e => hsb.extBut b o (Nat.ne_of_lt (Heap.lt_size e)) (Heap.get?_push_of_some _ e)
    refine ⟨I1.nolimit.fresh _ hsb, PySem.W.kla_codeExpr (wpAny_mono ((hbody _ _ s1 H1 (hr.deeper _)).run [] _ _ H1 Q ((LamX.lam_start2 (E := E) I L I1.env0 hr.hd un hns kp).wish _) ht) (fun v s' hq => ?_) fun e s' hq => hq)⟩
    obtain ⟨w', H', J', rv, q⟩ := hq
    exact ⟨w', H', J'.os, J'.bare, J'.base, J'.hok, rv, q⟩
  · match r, hq with
    | .error e, hq => exact L2N.passes_call (X := (cxOf CXg X.prog X.w X.K X.mg X.base Ng qg sg gf cdg X.A X.stack s H Eg).tr pn xe) (E := E) tk hW pinsZ σZ H1 s1 e s' I1 hq
    | .ok (.ret u), hq => exact I1.after hq
    | .ok .next, hq => exact False.elim hq
    | .ok .brk, hq => exact False.elim hq
    | .ok .cont, hq => exact False.elim hq
/-! ### the tables grow, all else stays -/
theorem SR.extN {st : Store} (s : SR g ρ st H) (e : LamX.ExtN H H') (T : LamX.Tabs g.T H') : Le ρ H ρ H' ∧ SR g ρ st H' := by
  have same : ∀ a, Has H a → H' a = H a := fun a ⟨o, h, n⟩ => (e a o h n).trans h.symm
  have le : Le ρ H ρ H' := by
    refine ⟨⟨[], by simp, by simp⟩, rfl, fun a u h _ q => ?_, fun a ha => same a (s.hidT a ha), fun a h => ?_, fun a o u h => (same a ⟨_, h, fun _ z => nomatch z⟩).trans h⟩
    · unfold Rd
      rw [same a (Has.rd h q)]
      exact h
    · have := same a h
      unfold Has at h ⊢
      rw [this]
      exact h
  refine ⟨le, s.len, s.nd, s.hid, fun a h => le.dom a (s.hidT a h), fun n c h => ?_, T⟩
  obtain ⟨a, ea, q⟩ := s.cell n c h
  exact ⟨a, ea, q.mono le (same a (s.live (List.mem_of_getElem? ea)))⟩

/-! ### told -/
/-- try: return a() / except x as e: return [word(e)] -/
def fTold (n : Nat) (wd : Nat → Str) (fb : FE) : FE := fun σ st => match fb σ st with
  | .ok d st1 => .ok d st1
  | .exc c st1 => if c < n then .ok (.lst [.str (wd c)]) st1 else .stk
  | .stk => .stk
/-- what told and the word def must be -/
structure Told (g : G) (P : Program) (w : World) (mg : Str → Option Value) (base : Heap) (k n : Nat) (wd : Nat → Str) (x : Str) (ga : Addr) (fd : FuncData) (a : Str) : Prop where
  body : ∃ (pg : Arguments) (sg : Scope) (bg : List Stmt) (dV kV doc pm cdv ct oc : Value) (an od : Option Addr) (osl : Array (Option Value)) (CS wa : Addr) (wfd : FuncData) (ex wx wp : Str) (p1 p2 p3 p4 p5 p6 p7 p8 p9 p10 p11 : Pos),
    fd = PySem.W.fnOf x x pg bg sg dV kV doc pm an cdv ct ∧ g.K.lookup ga = some ⟨oc, od, .func fd, osl⟩ ∧ PySem.W.codeIn g.K cdv x = true ∧
    bg = [.Try [.Return (some (.Call (.Name a p1) [] [] p2)) p3] [.ExceptHandler (some (.Name ex p4)) (some "_law_e") [.Return (some (.List [.Call (.Name wx p5) [.Name "_law_e" p6] [] p7] p8)) p9] p10] [] [] p11] ∧
    FnScope [a, "_law_e"] [a] sg ∧ Vis sg a ∧ sg.names.lookup ("_law_e" : Str) = some .local ∧ sg.names.lookup ex = some .globalImplicit ∧ (ex == ("__debug__" : Str)) = false ∧ mg ex = some (.ref CS) ∧ (∀ c, c < n → PySem.W.exmOne g.K (.ref (g.ca c)) (.ref CS) = some true) ∧
    sg.names.lookup wx = some .globalImplicit ∧ (wx == ("__debug__" : Str)) = false ∧ mg wx = some (.ref wa) ∧ PySem.W.keepIn g.K (.ref wa) = true ∧ L2.Binds g.K wfd [wp] [] ∧
    (∀ (c : Nat) (p : Addr × Obj), c < n → L2N.Zn (.ref (g.ca c)) none p.2 → (∃ vs, p.2.data = .fields vs) → FnX P w g.K mg base k wa wfd [wp] p (spW g (wd c) p))
  binds : L2.Binds g.K fd [a] []
  kp : PySem.W.keepIn g.K (.ref ga) = true
  mga : mg x = some (.ref ga)
  da : (a == ("__debug__" : Str)) = false
  ca : (a == ("__classdict__" : Str)) = false
  dx : (x == ("__debug__" : Str)) = false
theorem se_told {k n : Nat} {wd : Nat → Str} {x a : Str} {ga c P : Addr} {fd : FuncData} {params : Arguments} {body : Expr} {scope : Scope} {fb : FE} {p lpos pos : Pos} (T : Told g X.prog X.w X.mg X.base (k + 1) n wd x ga fd a) (hg : Gl X x)
    (TB : LamX.TabB X.base X.mg c P) (hcode : X.env.code = .ref c) (hmT : (P, X.env.qual ++ "<lambda>") ∈ g.T) (hu : ∀ p ∈ g.T, p.1 = P → p.2 = X.env.qual ++ "<lambda>") (hr : Room (k + 2) X.A) (L : LamX.LamS X.env.scope scope) (hdef : defaultsOf params X.env = ([], []))
    (hbind : ∀ (q : Str) (cl : List (Str × Addr)) (pm cv ctv : Value), bindArgs (PySem.W.kla_fn "<lambda>" q params body scope cl pm cv ctv) ⟨[], []⟩ = pure [])
    (hbody : ∀ (A : Around) (outer : List PySem.Env) (s : Shared) (H : Hp) (E : XK) (f c' : Addr), Room k (A.deeper (LamX.lamEnv X scope s.heap.objs.size f c')) → SE g E (lamN X A outer s H E scope f c') body fb) :
    SE g E X (.Call (.Name x p) [.Lambda params body scope lpos] [] pos) (fTold n wd fb) := by
  refine .mk ?_
  intro hK tk σ st σV H ρ Q er sr h pins s I
  obtain ⟨pg, sg, bg, dV, kV, doc, pm, cdv, ct, oc, an, od, osl, CS, wa, wfd, ex, wx, wp, p1, p2, p3, p4, p5, p6, p7, p8, p9, p10, p11, efd, lk, hcg, ebg, Sg, hva, hle, hge, hde, hme, hexm, hgw, hdw, hmw, hkw, hbw, hw⟩ := T.body
  refine wpAny_Call_Name_kw (ld_glob I hg T.mga (PySem.W.callWith_K (h₀ := X.base) I.ok.mod.kin (by rw [hK]; exact T.kp) ?_ (by rfl) (by rfl)) T.dx)
  show wpAny _ _ (spliced ((false, eval (.Lambda params body scope lpos) X.env) :: backTo pos (starEach [] X.env))) _ _ s
  refine Calls.spliced_cons (LamX.lam_make2 I TB hcode hmT hu sr.tabs hdef (L.has I.ok) fun f c' pm' ctv H1 s' I1 eN T1 hf hfn hfr hco => Calls.spliced_nil ⟨I1.kIn, ?_⟩)
  obtain ⟨l1, s1⟩ := sr.extN eN T1
  rw [← hK] at lk hcg
  refine wpAny_call (codeAny_mono (R := CR C8.CX0 X.stack X.prog X.w H1 s' Q C8.E0) ?_ fun r s2 hq => ?_)
  · have hb0 := T.binds s' [.ref f] (by rw [← hK]; exact I1.kIn) rfl
    rw [efd] at lk hb0
    refine LamX.run_ofS (N := [a, "_law_e"]) (ps := [a]) (us := [.ref f]) (vs := [.ref f]) lk hcg Sg hr I1.env0 hb0 (.cons rfl .nil) rfl fun hr' => ?_
    subst ebg
    let E1 : XK := fun cls d H' => ∃ (c : Nat) (st' : Store) (ρ' : Pl), cls = .ref (g.ca c) ∧ d = none ∧ c < n ∧ SR g ρ' st' H' ∧ ∀ v H2, Le ρ' H' ρ' H2 → SR g ρ' st' H2 → Rp g ρ' H2 (.lst [.str (wd c)]) v → Q v H2
    let tbody : TE := fun σ0 H0 Q0 => ∃ (σ : Env) (st : Store) (ρ : Pl), ER g ρ H0 σ σ0 ∧ SR g ρ st H0 ∧ Ok1 g ρ H0 E1 Q0 (fb σ st)
    refine ⟨_, pss_one (L2N.ps_try_as (X := cxOf C8.CX0 X.prog X.w X.K X.mg X.base [a, "_law_e"] x sg ga cdv X.A X.stack s' H1 C8.E0) (i := 1) (c := .ref CS) (Wout := fun _ _ _ _ => False)
      (tb := fun W D σZ HZ => (∀ cls d σ' H', E1 cls d H' → σ'.length = 2 → W cls d σ' H') ∧ σZ[0]? = some (some (.ref f)) ∧ HZ c' = some (LamX.CodeO c' (X.env.qual ++ "<lambda>")) ∧ tbody σV HZ D.rt)
      (ts := fun a cls d D σ H => ∃ (c : Nat) (st' : Store) (ρ' : Pl), cls = .ref (g.ca c) ∧ d = none ∧ c < n ∧ σ[1]? = some (some (.ref a)) ∧ SR g ρ' st' H ∧ ∀ v H2, Le ρ' H ρ' H2 → SR g ρ' st' H2 → Rp g ρ' H2 (.lst [.str (wd c)]) v → D.rt v H2)
      rfl rfl Sg.nd rfl hle ⟨hge, hde, .inl hme⟩ tk0 (fun W pn xe tk _ => ⟨fun pins s σ H D I h' => ?_⟩) (fun ea oe cls d pn hz hfl => ⟨fun pins s σ H D I h' => ?_⟩)), ?_⟩
    · obtain ⟨hW, h0, hc, ht⟩ := h'
      refine (pss_one (ps_ret (pe_actN (E := E1) (tb := tbody) (W := fun c d σ H => σ.length = _ → W c d σ H) (i := 0) I1 L hf hfn hfr (hbind _ _ _ _ _) (takesLen tk) (fun cls d σ' H' e l => hW cls d σ' H' e l) hr' (fun A outer s H hr2 => ⟨fun pins s3 σ0 H0 Q0 I h3 => ?_⟩) rfl hva T.da T.ca))).run pins s σ H D I ⟨h0, hc, ht⟩
      obtain ⟨σ, st, ρ, er, sr, h⟩ := h3
      exact hbody A outer s H E1 f c' hr2 hK (L2N.takes_of rfl rfl rfl rfl) σ st σ0 H0 ρ Q0 er sr h pins s3 I
    · obtain ⟨c, st', ρ', e1, e2, hc, hs, sr', q⟩ := h'
      subst e1 e2
      have hot : L2H.Hot1 ((cxOf C8.CX0 X.prog X.w X.K X.mg X.base [a, "_law_e"] x sg ga cdv X.A X.stack s' H1 C8.E0).suite ea ((ea, oe) :: pn)).A (ea, oe) := by
        obtain ⟨vs, hv⟩ := hfl
        exact ⟨rfl, vs, hv, hz.2.2 vs hv⟩
      have F := hw c (ea, oe) hc hz hfl
      rw [← hK] at F hkw hbw
      refine (pss_one (ps_ret (pe_lst (pa_cons (pe_callX (X := (cxOf C8.CX0 X.prog X.w X.K X.mg X.base [a, "_law_e"] x sg ga cdv X.A X.stack s' H1 C8.E0).suite ea ((ea, oe) :: pn)) F ⟨hr'.dp, hr'.un⟩ hot List.mem_cons_self hgw hmw hkw hbw (pa_cons (pe_var (i := 1) rfl (.inl hle)) pa_nil) hdw) pa_nil)))).run pins s σ H D I ?_
      refine ⟨.ref ea, hs, rfl, ρ', st', sr', fun H2 l2 s2 => ⟨(show 1 ≤ sizeLine from by decide), fun p hp => ?_⟩⟩
      exact q _ _ (l2.trans (s2.leLay hp)) (s2.lay hp) (Rp.of_lst s2 hp (Rps.one rfl))
    · refine ⟨fun cls d σ' H' e1 hl => ?_, rfl, hco, σ, st, ρ, er.mono l1, s1, ?_⟩
      · obtain ⟨c, st', ρ', e1, e2, hc, s', q⟩ := e1
        subst e1 e2
        have hex := hexm c hc
        rw [← hK] at hex
        refine ⟨true, hex, fun _ ea na => ⟨c, st', ρ', rfl, rfl, hc, ?_, s', q⟩, nofun⟩
        rw [List.getElem?_set_self (by rw [hl]; decide)]
      · have h := Ok1.mono l1 h
        unfold fTold at h
        cases hfb : fb σ st with
        | ok d st1 => rw [hfb] at h; exact h
        | exc c st1 =>
          rw [hfb] at h
          have h : Ok1 g ρ H1 E Q (if c < n then .ok (.lst [.str (wd c)]) st1 else .stk) := h
          by_cases hc : c < n
          · rw [if_pos hc] at h
            exact fun H' ρ' l s' => ⟨c, st1, ρ', rfl, rfl, hc, s', fun v H2 l2 s2 r2 => h v H2 ρ' (l.trans l2) s2 r2⟩
          · rw [if_neg hc] at h
            exact h.elim
        | stk => rw [hfb] at h; exact h.elim
  · match r, hq with
    | .error e, hq => exact (show False from hq).elim
    | .ok (.ret u), hq => exact I1.after hq
    | .ok .next, hq => exact False.elim hq
    | .ok .brk, hq => exact False.elim hq
    | .ok .cont, hq => exact False.elim hq
end Hw
/-! HwF: enumerate, a list times a number. -/
namespace Hw
open PySem PySem.Spec PyProof.Rows L2
variable {g : G} {ρ ρ' ρ'' : Pl} {H H' H'' : Hp} {E : XK} {X : Cx}

/-! ### enumerate(text) -/
def Ites (x : Str) : It := ⟨fun i _ => i < x.cps.size, fun i H v H' => ∃ T c, v = .ref T ∧ H T = none ∧ H' = upd H T (.tup [.int (i : Nat), .str ⟨#[c]⟩]) ∧ x.cps[i]? = some c, fun i _ => i = x.cps.size⟩
theorem draws_str {prog : Program} {w : World} {A : Around} (hh : A.handled = none) (it : Addr) (x : Str) (t : Tok) : Draws prog w A it [it] x.cps.size (fun i v => ∃ c u, x.cps[i]? = some c ∧ v = .str ⟨#[c]⟩ u) (fun i h => h.IsStrIter it (strIterType x) x t i) := by
  unfold strIterType
  split
  · exact Draws.strAscii hh it x t
  · exact Draws.strWide hh it x t
theorem turn_enumS {P : Program} {w : World} {K : PySem.W.Frag} {elts : List Expr} {kk : Nat} {tpos : Pos} (x : Str) (t : Tok) (e it : Addr) :
    Turn P w K (.Tuple elts kk tpos) (Ites x) [e, it] e (fun i h => (∃ old, IsEnum h e it ((i : Nat) : Int) old) ∧ h.IsStrIter it (strIterType x) x t i ∧ e ≠ it) where
  mem := by simp
  obj := fun i h st b hb => by
    obtain ⟨⟨old, he⟩, ⟨o, ho, hc, hd⟩, _⟩ := st
    rcases (show b = e ∨ b = it by simpa using hb) with z | z <;> rw [z]
    · exact ⟨_, he, fun v q => nomatch q⟩
    · exact ⟨o, ho, fun v q => by rw [hd] at q; cases q⟩
  keep := fun i h h' st k => by
    obtain ⟨⟨old, he⟩, ⟨o, ho, r⟩, hne⟩ := st
    exact ⟨⟨old, k e (by simp) _ he⟩, ⟨o, k it (by simp) o ho, r⟩, hne⟩
  item := by
    intro X hP hw hK hc i pins s σ H E I hf st hg
    subst hP hw hK
    obtain ⟨⟨old, he⟩, hit, hne⟩ := st
    have hel : e < s.heap.objs.size := Heap.lt_size he
    have hil : it < s.heap.objs.size := by obtain ⟨_, q, _⟩ := hit; exact Heap.lt_size q
    have D := draws_str (prog := X.prog) (w := X.w) (A := X.A.in1) (I.ok.hd hc) it x t
    refine wpAny_pyNext_enum_itemD D he hit hg hne (by simpa using hne) fun y h' tk hy ho hit' hT hsz hk => ?_
    obtain ⟨c, u, hx, ey⟩ := hy
    refine ⟨_, rfl, wpAny_letOwnedTupleGo_enum (s := { s with heap := h', toks := tk + 1 }) ho fun h'' he' sb => ?_⟩
    have hT2 : h''.get? s.heap.objs.size = some { cls := .type "tuple", data := .seq #[.int i tk, y] } := (sb.2 _ (Nat.ne_of_gt hel)).trans hT
    have ru : RelV (.str ⟨#[c]⟩) y := ⟨u, ey⟩
    have new : ObjOk X.prog X.w (upd H s.heap.objs.size (.tup [.int (i : Nat), .str ⟨#[c]⟩])) h'' s.heap.objs.size (.tup [.int (i : Nat), .str ⟨#[c]⟩]) :=
      ⟨by show 2 ≤ sizeLine; decide, [.int i tk, y], .cons ⟨_, rfl⟩ (.cons ru .nil), ⟨_, hT2, rfl, _, rfl⟩⟩
    have I1 : Inv X pins σ (upd H s.heap.objs.size (.tup [.int (i : Nat), .str ⟨#[c]⟩])) { s with heap := h'', toks := tk + 1 } :=
      I.turnedNew (ch := [e, it]) (fun b ob hb q => (sb.2 b (fun z => hb (by simp [z]))).trans (hk b ob (fun z => hb (by simp [z])) (fun z => hb (by simp [z])) q)) hf (Nat.le_refl _) new
    refine ⟨.ref s.heap.objs.size, _, I1, rfl, ⟨_, c, rfl, I.hok.fresh (Nat.le_refl _), rfl, hx⟩, ⟨⟨y, ?_⟩, ?_, hne⟩, fun b hb => ?_⟩
    · have e1 : ((i + 1 : Nat) : Int) = (i : Int) + 1 := by omega
      rw [e1]; exact he'
    · obtain ⟨o, q, r⟩ := hit'
      exact ⟨o, (sb.2 it (Ne.symm hne)).trans q, r⟩
    · have hb' : b < s.heap.objs.size := by
        rcases (show b = e ∨ b = it by simpa using hb) with z | z
        · rw [z]; exact hel
        · rw [z]; exact hil
      rw [upd_ne (Nat.ne_of_lt hb')]
      exact (hf b hb).1
  done := by
    intro X hP hw hK hc i pins s σ H E I hf st hg
    subst hP hw hK
    obtain ⟨⟨old, he⟩, hit, hne⟩ := st
    obtain ⟨f0, f1, f2, f3, f4, f5⟩ := hf it (by simp)
    have hg : i = x.cps.size := hg
    subst hg
    have D := draws_str (prog := X.prog) (w := X.w) (A := X.A.in1) (I.ok.hd hc) it x t
    exact wpAny_pyNext_enum_endD D he hit fun h' eb => ⟨rfl, I.turned (t' := s.toks) (fun b o hb q => eb b o hb q) f0 f1 f3 f4 f5⟩
  self := fun A i s Q E st h => let ⟨⟨_, he⟩, _⟩ := st; wpAny_pyIter_enum he h
def iEnumS (ta : TA) : TI := fun σ H R => ta σ H fun vs H1 => ∃ x, vs = [.str x] ∧ R (Ites x) H1
theorem pi_enumS {e : Expr} {ta : TA} {p pos tpos : Pos} {elts : List Expr} {kk : Nat} (hg : Gl X "enumerate") (hm : X.mg "enumerate" = none) (ha : PA X [e] ta) (hs : starEach [e] X.env = [(false, eval e X.env)] := by rfl) :
    PI X (.Tuple elts kk tpos) (.Call (.Name "enumerate" p) [e] [] pos) (iEnumS ta) := by
  refine ⟨fun pins s σ H R I h => Call_ (ld_blt I hg hm boot_enumerate (PyProof.Rows.callWith_type1 (thn (ha.run pos pins s σ H _ I h) fun us s1 hq => ?_) hs rfl))⟩
  obtain ⟨vs, H1, I1, r1, x, ex, q⟩ := hq
  subst ex
  match us, r1 with
  | _, .cons r .nil =>
    obtain ⟨t, er⟩ := r
    subst er
    refine call_enumerate_str fun h' he hit hsz hk => wpAny_pyIter_enum he ?_
    refine ⟨s1.heap.objs.size + 1, [s1.heap.objs.size + 1, s1.heap.objs.size], _, _, H1, rfl, I1.kept (t' := s1.toks) hk, turn_enumS x t (s1.heap.objs.size + 1) s1.heap.objs.size, ⟨⟨.none, he⟩, hit, Nat.succ_ne_self _⟩, fun b hb => ?_, q⟩
    have hle : s1.heap.objs.size ≤ b := by
      rcases (show b = s1.heap.objs.size + 1 ∨ b = s1.heap.objs.size by simpa using hb) with z | z
      · rw [z]; exact Nat.le_add_right _ _
      · rw [z]; exact Nat.le_refl _
    exact I1.fpOk hle (I1.hok.fresh hle)
def numbered (n : Nat) : List D → List D
  | [] => []
  | d :: r => .tup [.int (n : Nat), d] :: numbered (n + 1) r
theorem numbered_length : ∀ (n : Nat) (ds : List D), (numbered n ds).length = ds.length
  | _, [] => rfl
  | n, d :: r => by rw [numbered, List.length_cons, List.length_cons, numbered_length (n + 1) r]
theorem numbered_get : ∀ {n i : Nat} {ds : List D} {d : D}, ds[i]? = some d → (numbered n ds)[i]? = some (.tup [.int ((n + i : Nat) : Int), d])
  | n, i, [], d, h => by simp at h
  | n, 0, x :: r, d, h => by
    simp at h
    subst h
    rfl
  | n, i + 1, x :: r, d, h => by
    have h : r[i]? = some d := by simpa using h
    rw [numbered, List.getElem?_cons_succ, numbered_get h, show n + 1 + i = n + (i + 1) by omega]
/-- a new pair, laid in a heap -/
theorem pair_new {κ : Pl} {H1 : Hp} {st : Store} {T : Addr} {d : D} {x : V} {i : Nat} (s : SR g κ st H1) (hT : H1 T = none) (r : Rp g κ H1 d x) : Le κ H1 κ (upd H1 T (.tup [.int (i : Nat), x])) ∧ SR g κ st (upd H1 T (.tup [.int (i : Nat), x])) ∧ Rp g κ (upd H1 T (.tup [.int (i : Nat), x])) (.tup [.int (i : Nat), d]) (.ref T) :=
  ⟨s.leLay hT, s.lay hT, Rp.of_tup s hT ⟨_, _, rfl, rfl, _, _, rfl, r, rfl⟩⟩
theorem it_enumS {s : Str} : ItOk g ρ H (Ites s) (numbered 0 (s.cps.toList.map fun c => .str ⟨#[c]⟩)) where
  goes := fun i ρ1 H1 hi l => by
    rw [numbered_length] at hi
    show i < s.cps.size
    simpa using hi
  stops := fun ρ1 H1 l => by
    rw [numbered_length]
    show _ = s.cps.size
    simp
  yields := fun i ρ1 κ H1 st x H2 hi l k s' y => by
    obtain ⟨T, c, e1, hT, e2, hx⟩ := y
    subst e1 e2
    obtain ⟨a, b, c'⟩ := pair_new (d := .str ⟨#[c]⟩) (i := i) s' hT rfl
    refine ⟨.tup [.int (i : Nat), .str ⟨#[c]⟩], ?_, a, b, c'⟩
    have := numbered_get (n := 0) (i := i) (ds := s.cps.toList.map fun c => .str ⟨#[c]⟩) (d := .str ⟨#[c]⟩) (by rw [List.getElem?_map, Array.getElem?_toList, hx] <;> rfl)
    rw [this, Nat.zero_add]
theorem it_enumL {a : Addr} {vs : List V} {ds : List D} (n : a ∉ ρ.lk) (h : Rd H a (.lst vs)) (r : Rps g ρ H ds vs) : ItOk g ρ H (Ite X.K a) (numbered 0 ds) where
  goes := fun i ρ1 H1 hi l => by
    rw [numbered_length] at hi
    exact ⟨vs, vs[i]'(by rw [← r.length]; exact hi), .inl (l.keep a _ h n rfl), by simp [← r.length, hi]⟩
  stops := fun ρ1 H1 l => ⟨vs, .inl (l.keep a _ h n rfl), by rw [numbered_length, r.length]; exact Nat.le_refl _⟩
  yields := fun i ρ1 κ H1 st x H2 hi l k s y => by
    obtain ⟨T, v, e1, hT, e2, hx⟩ := y
    subst e1 e2
    have hx := hx vs (.inl (l.keep a _ h n rfl))
    obtain ⟨d, h1, h2⟩ := (r.ke k).getV hx
    obtain ⟨x1, x2, x3⟩ := pair_new (i := i) s hT h2
    exact ⟨_, by rw [numbered_get h1, Nat.zero_add], x1, x2, x3⟩
def enumOf : D → Option (List D)
  | .str s => some (numbered 0 (s.cps.toList.map fun c => .str ⟨#[c]⟩))
  | .lst xs => some (numbered 0 xs)
  | _ => none
def fEnum (f : FE) : FI := fun σ st => (f σ st).bind fun d st1 => R.of ((enumOf d).map fun xs => (xs, st1))
theorem si_enum {e : Expr} {f : FE} {p pos tpos : Pos} {elts : List Expr} {kk : Nat} (he : SE g E X e f) (hg : Gl X "enumerate") (hm : X.mg "enumerate" = none) (hs : starEach [e] X.env = [(false, eval e X.env)] := by rfl) :
    SI g E X (.Tuple elts kk tpos) (.Call (.Name "enumerate" p) [e] [] pos) (fEnum f) := .mk fun hK tk => by
  refine ⟨_, PI.or (pi_enum hg hm (pa_cons (pe_mx (e := e)) pa_nil hs) hs) (pi_enumS hg hm (pa_cons (pe_mx (e := e)) pa_nil hs) hs), fun σ st σV H ρ Q er sr h => ?_⟩
  unfold fEnum at h
  cases e1 : f σ st with
  | ok d st1 =>
    rw [e1] at h
    have h' : OkI g ρ H E Q (R.of ((enumOf d).map fun xs => (xs, st1))) := h
    cases d with
    | lst xs =>
      refine .inl (he hK tk σ st σV H ρ _ er sr ?_)
      rw [e1]
      intro v H1 ρ1 l1 s1 r1
      obtain ⟨a, vs, e2, t, r⟩ := r1
      exact ⟨a, vs, by rw [e2], .inl t.2, h' _ H1 ρ1 l1 s1 (it_enumL t.1.1 t.2 r)⟩
    | str s =>
      refine .inr (he hK tk σ st σV H ρ _ er sr ?_)
      rw [e1]
      intro v H1 ρ1 l1 s1 r1
      have r1 : v = .str s := r1
      exact ⟨s, by rw [r1], h' _ H1 ρ1 l1 s1 it_enumS⟩
    | _ => exact h'.elim
  | exc c st1 =>
    rw [e1] at h
    refine .inl (he hK tk σ st σV H ρ _ er sr ?_)
    rw [e1]
    exact h
  | stk =>
    rw [e1] at h
    exact h.elim

/-! ### a list times a number -/
def rRepR : R2 := fun x y H Q => ∃ (l : Addr) (k : Int) (xs : List V), x = .ref l ∧ y = .int k ∧ Rd H l (.lst xs) ∧ 0 ≤ k ∧ k ≤ 1000 ∧ xs.length ≤ 10000 ∧ ∀ p, H p = none → Q (.ref p) (upd H p (.lst (List.replicate k.toNat xs).flatten))
theorem op_repR : OpR X (binaryOp .Mult) rRepR := by
  intro pins s σ H x y v u Q I rx ry h
  obtain ⟨l, k, xs, ex, ey, hR, h1, h2, hz, q⟩ := h
  subst ex ey
  obtain ⟨t, et⟩ := ry
  have ev : v = .ref l := rx
  subst et ev
  obtain ⟨z, its, n, r, e⟩ := hR.ok I.hok
  have hl := r.length
  have big : its.toArray.size * k.toNat ≤ 10000000 := by
    rw [List.size_toArray, ← hl]
    exact Nat.mul_le_mul hz (show k.toNat ≤ 1000 by omega)
  have hsl : its.toArray.size * k.toNat ≤ sizeLine := Nat.le_trans big (by decide)
  have hcap : ¬ its.toArray.size * k.toNat > (2 ^ 63 - 1) / 8 := fun c => absurd (Nat.le_trans c big) (by decide)
  have hfit : ¬ (!Builtin.List.listFitsIndex k) = true := by
    rw [fitsIndex_both (by omega) (by omega)]
    exact Bool.false_ne_true
  have hlong : ¬ Builtin.List.listTooLong (its.toArray.size * k.toNat) = true := by
    rw [notLongL hsl]
    exact Bool.false_ne_true
  have hnew : List.foldl (fun x1 x2 => x1 ++ x2) #[] (List.replicate (if its.toArray.isEmpty = true then 0 else k.toNat) its.toArray) = (List.replicate k.toNat its).flatten.toArray := by
    rw [size_rep]
    cases its with
    | nil => simp
    | cons a r' => rw [if_neg (by simp)]
  refine wpAny_binaryOp_repeat_ref (T := "list") (U := "int") (by decide) ⟨_, e, rfl⟩ (fun s' => typeIs_int s' k t) noFill_list_mul F.fills_int_mul F.slot_int_rmul repeat_list F.slot_int_index.lookup (call_meets F.slot_int_rmul (typeIs_int s k t) F.entry_int_rmul (F.args_int_rmul_2 _ _) (int___rmul___int_list k t l its.toArray n) ⟨e, rfl, ⟨_, e, rfl⟩, ?_⟩)
  refine call_meets F.slot_list_mul ⟨_, e, rfl⟩ F.entry_list_mul (F.args_list_mul_2 _ _) (AutoListH.list___mul___list_int_3 l its.toArray n k t hfit hcap hlong) ⟨e, ?_⟩
  rw [hnew]
  exact ⟨.ref _, _, I.lnew (t' := s.toks) (r.rep k.toNat) (by rw [PyProof.Rows.lm_len_rep_flat, Nat.mul_comm, hl, ← List.size_toArray]; exact hsl), rfl, q _ I.fresh⟩
/-- numbers, a list or a tuple times a number -/
def rMulD (K : PySem.W.Frag) : R2 := fun x y H Q => rMulAll x y H Q ∨ rRepR x y H Q ∨ rRepT K x y H Q
theorem op_mulD : OpR X (binaryOp .Mult) (rMulD X.K) := op_mulAll.or (op_repR.or op_repT)
def repN (k : Nat) (xs : List D) : List D := (List.replicate k xs).flatten
theorem Rps.rep {ds : List D} {vs : List V} (r : Rps g ρ H ds vs) : ∀ k : Nat, Rps g ρ H (repN k ds) (List.replicate k vs).flatten
  | 0 => rfl
  | k + 1 => by
    show Rps g ρ H (List.replicate (k + 1) ds).flatten _
    rw [List.replicate_succ, List.replicate_succ, List.flatten_cons, List.flatten_cons]
    exact r.append (Rps.rep r k)
def dMulD (x y : D) (st : Store) : Option (D × Store) := match y with
  | .int k => match x with
    | .int i => dMul (.int i) (.int k) st
    | .tup xs => if decide (2 ≤ k ∧ k ≤ 1000 ∧ xs.length ≤ 1000 ∧ xs.length ≠ 0) then some (.tup (repN k.toNat xs), st) else none
    | x => (listOf st x).bind fun xs => if decide (0 ≤ k ∧ k ≤ 1000 ∧ xs.length ≤ 10000) then some (.lst (repN k.toNat xs), st) else none
  | _ => none
theorem sop_mulD (hK : X.K = g.K) : SOp g (rMulD X.K) dMulD := by
  intro x y z st st' ρ H v w Q sr r1 r2 h q
  cases y with
  | int k =>
    have r2 : w = .int k := r2
    have viaL : ((listOf st x).bind fun xs => if decide (0 ≤ k ∧ k ≤ 1000 ∧ xs.length ≤ 10000) = true then some (D.lst (repN k.toNat xs), st) else none) = some (z, st') → rMulD X.K v w H Q := fun h => by
      rw [Option.bind_eq_some_iff] at h
      obtain ⟨xs, h1, h2⟩ := h
      obtain ⟨h4, h5⟩ := if_some h2
      cases h5
      obtain ⟨a, b, c⟩ := of_decide_eq_true h4
      obtain ⟨l, vs, e, t, s⟩ := listOf_ok sr r1 h1
      exact .inr (.inl ⟨l, k, vs, e, r2, t, a, b, by rw [← s.length]; exact c, fun p hp => q _ _ ρ (sr.leLay hp) (sr.lay hp) (Rp.of_lst sr hp (s.rep k.toNat))⟩)
    cases x with
    | int i => exact .inl (sop_mul _ _ _ _ _ _ _ _ _ _ sr r1 (show Rp g ρ H (.int k) w from r2) h q)
    | tup xs =>
      obtain ⟨h4, h5⟩ := if_some (show (if decide (2 ≤ k ∧ k ≤ 1000 ∧ xs.length ≤ 1000 ∧ xs.length ≠ 0) = true then some (D.tup (repN k.toNat xs), st) else none) = some (z, st') from h)
      cases h5
      obtain ⟨a, b, c, d⟩ := of_decide_eq_true h4
      obtain ⟨l, vs, e, t, s⟩ := tup_ok hK r1
      exact .inr (.inr ⟨l, k, vs, e, r2, t, (fun e => d (by rw [s.length, e] <;> rfl)), a, b, by rw [← s.length]; exact c, fun p hp => q _ _ ρ (sr.leLay hp) (sr.lay hp) (Rp.of_tup sr hp (s.rep k.toNat))⟩)
    | _ => exact viaL h
  | _ => cases h
end Hw
/-! HwG: the text's defs and constants as they stand behind the top; calls by name. -/
namespace Hw
open PySem PySem.Spec PyProof.Rows L2
variable {g : G} {ρ ρ' ρ'' : Pl} {H H' H'' : Hp} {E : XK} {X : Cx}
/-- a def of the top -/
structure Df (K : PySem.W.Frag) (mg : Str → Option Value) (x : Str) (s : Stmt) (ps : List Str) : Prop where
  ex : ∃ (a : Addr) (fd : FuncData), Fun K x x s a fd ∧ mg x = some (.ref a) ∧ ∀ us : List Value, us.length = ps.length → bindArgs fd ⟨us, []⟩ = pure (ps.zip us)
theorem df_mk {K : PySem.W.Frag} {h : Heap} {mg : Str → Option Value} {x : Str} {s : Stmt} {ps : List Str} {f : Addr} {oc : Value} {od an : Option Addr} {osl : Array (Option Value)} {kV doc pm cdv ct : Value} (X : K.In h) (G : h.Ns mainGlobals mg)
    (a : PySem.W.nsIn K mainGlobals x = some (some (.ref f))) (l : K.lookup f = some ⟨oc, od, .func (PySem.W.fnOf x x (defArgs s) (defBody s) (defScope s) .none kV doc pm an cdv ct), osl⟩) (c : PySem.W.codeIn K cdv x = true) (k : PySem.W.keepIn K (.ref f) = true)
    (b : ∀ (kV doc pm : Value) (an : Option Addr) (cdv ct : Value) (us : List Value), us.length = ps.length → bindArgs (PySem.W.fnOf x x (defArgs s) (defBody s) (defScope s) .none kV doc pm an cdv ct) ⟨us, []⟩ = pure (ps.zip us)) : Df K mg x s ps :=
  ⟨f, _, fun_mk l c k, PySem.W.mg_of X G a, b kV doc pm an cdv ct⟩
/-- a def that keeps its promise -/
structure Ca (g : G) (P : Program) (w : World) (mg : Str → Option Value) (base : Heap) (k : Nat) (x : Str) (n : Nat) (c : List D → Store → R D) : Prop where
  ex : ∃ (a : Addr) (fd : FuncData) (ps : List Str), FnOk P w g.K mg base (L2N.CX P w) k a fd ps (spD g n c) ∧ mg x = some (.ref a) ∧ PySem.W.keepIn g.K (.ref a) = true ∧ L2.Binds g.K fd ps [] ∧ ps.length = n
theorem Ca.mono {P : Program} {w : World} {mg : Str → Option Value} {base : Heap} {j k n : Nat} {x : Str} {c : List D → Store → R D} (C : Ca g P w mg base j x n c) (h : j ≤ k) : Ca g P w mg base k x n c := by
  obtain ⟨a, fd, ps, F, r⟩ := C.ex
  exact ⟨a, fd, ps, F.mono h, r⟩
section
variable {P : Program} {w : World} {mg : Str → Option Value} {base : Heap}
theorem ca_of {x : Str} {s : Stmt} {N ps : List Str} {k : Nat} {f : FS} (D : Df g.K mg x s ps) (S : FnScope N ps (defScope s))
    (hbody : ∀ (fa : Addr) (cdv : Value) (A : Around) (outer : List PySem.Env) (s1 : Shared) (H : Hp) (E : XK), Room k (A.deeper (envOfC x (defScope s) s1.heap.objs.size fa cdv)) → SB g E (cxOf (L2N.CX P w) P w g.K mg base N x (defScope s) fa cdv A outer s1 H E) (defBody s) f) :
    Ca g P w mg base (k + 1) x ps.length (callB N.length f) := by
  obtain ⟨a, fd, F, m, b⟩ := D.ex
  exact ⟨a, fd, ps, fn_ok F S fun cdv A outer s1 H E hr => hbody a cdv A outer s1 H E hr, m, F.kp, .all b, rfl⟩
/-- the law itself: its object ahead of the ground -/
structure LawOk (g : G) (P : Program) (w : World) (mg : Str → Option Value) (cs : List (Addr × Addr)) (k : Nat) (x : Str) (p : Str) (c : List D → Store → R D) : Prop where
  ex : ∃ (a : Addr) (fd : FuncData), mg x = some (.ref a) ∧ (∀ us : List Value, us.length = 1 → bindArgs fd ⟨us, []⟩ = pure ([p].zip us)) ∧ ∀ base : Heap, (∀ p ∈ cs, LamX.TabB base mg p.1 p.2) → FnOk P w g.K mg base (L2N.CX P w) k a fd [p] (spD g 1 c)
theorem law_of {x p : Str} {s : Stmt} {N : List Str} {k : Nat} {f : FS} {cs : List (Addr × Addr)} (D : Df g.K mg x s [p]) (S : FnScope N [p] (defScope s))
    (hbody : ∀ (base : Heap), (∀ p ∈ cs, LamX.TabB base mg p.1 p.2) → ∀ (fa : Addr) (cdv : Value) (A : Around) (outer : List PySem.Env) (s1 : Shared) (H : Hp) (E : XK), Room k (A.deeper (envOfC x (defScope s) s1.heap.objs.size fa cdv)) → SB g E (cxOf (L2N.CX P w) P w g.K mg base N x (defScope s) fa cdv A outer s1 H E) (defBody s) f) :
    LawOk g P w mg cs (k + 1) x p (callB N.length f) := by
  obtain ⟨a, fd, F, m, b⟩ := D.ex
  exact ⟨a, fd, m, b, fun base TB => fn_ok F S fun cdv A outer s1 H E hr => hbody base TB a cdv A outer s1 H E hr⟩
end
/-- how many arguments -/
def FL (n : Nat) (fa : FA) : Prop := ∀ σ st ds st', fa σ st = .ok ds st' → ds.length = n
theorem fl_nil : FL 0 fNil := fun σ st ds st' h => by cases h; rfl
theorem fl_cons {n : Nat} {f : FE} {fa : FA} (h : FL n fa) : FL (n + 1) (fCons f fa) := fun σ st ds st' e => by
  unfold fCons at e
  cases e1 : f σ st with
  | ok d st1 =>
    rw [e1] at e
    have e : (fa σ st1).bind (fun ds st2 => R.ok (d :: ds) st2) = .ok ds st' := e
    cases e2 : fa σ st1 with
    | ok es st2 =>
      rw [e2] at e
      have e : R.ok (d :: es) st2 = .ok ds st' := e
      injection e with e3 e4
      rw [← e3, List.length_cons, h _ _ _ _ e2]
    | exc c st2 => rw [e2] at e; cases e
    | stk => rw [e2] at e; cases e
  | exc c st1 => rw [e1] at e; cases e
  | stk => rw [e1] at e; cases e
theorem se_ca {k j n : Nat} {c : List D → Store → R D} {x : Str} {p pos : Pos} {e : Expr} {es : List Expr} {fa : FA} (C : Ca g X.prog X.w X.mg X.base j x n c) (hr : Room k X.A) (hjk : j ≤ k) (hg : Gl X x) (hl : FL n fa) (ha : SA g E X (e :: es) fa)
    (hdb : (x == ("__debug__" : Str)) = false := by decide) (he : starEach (e :: es) X.env = (false, eval e X.env) :: starEach es X.env := by rfl) (hpl : (backTo pos (starEach es X.env)).any (·.1) = false := by rfl) : SE g E X (.Call (.Name x p) (e :: es) [] pos) (fCall c fa) := .mk fun hK tk => by
  obtain ⟨a, fd, ps, F, m, kp, b, hn⟩ := (C.mono hjk).ex
  rw [← hK] at F kp b
  exact se_call F hr hg m kp b hn ha hl hdb he hpl hK tk
/-- a constant of the top -/
structure Kst (g : G) (mg : Str → Option Value) (x : Str) (d : D) : Prop where
  ex : ∃ (v : V) (u : Value), mg x = some u ∧ RelV v u ∧ ∀ ρ H, Rp g ρ H d v
theorem se_k {x : Str} {d : D} {pos : Pos} (C : Kst g X.mg x d) (hg : Gl X x) (hd : (x == ("__debug__" : Str)) = false := by decide) : SE g E X (.Name x pos) (fC d) := by
  obtain ⟨v, u, m, r, q⟩ := C.ex
  exact se_c (pe_glob hg m r hd) q
theorem kst_str {K : PySem.W.Frag} {h : Heap} {mg : Str → Option Value} {x s : Str} {t : Tok} (X : K.In h) (G : h.Ns mainGlobals mg) (a : PySem.W.nsIn K mainGlobals x = some (some (.str s t))) : Kst g mg x (.str s) := ⟨.str s, _, PySem.W.mg_of X G a, ⟨t, rfl⟩, fun _ _ => rfl⟩
theorem kst_int {K : PySem.W.Frag} {h : Heap} {mg : Str → Option Value} {x : Str} {s : Int} {t : Tok} (X : K.In h) (G : h.Ns mainGlobals mg) (a : PySem.W.nsIn K mainGlobals x = some (some (.int s t))) : Kst g mg x (.int s) := ⟨.int s, _, PySem.W.mg_of X G a, ⟨t, rfl⟩, fun _ _ => rfl⟩
/-- a tuple of texts -/
def strTup : List Value → List Str → Bool
  | [], [] => true
  | .str s _ :: r, x :: xs => decide (s = x) && strTup r xs
  | _, _ => false
theorem strTup_ok : ∀ {us : List Value} {xs : List Str}, strTup us xs = true → Vals (xs.map V.str) us
  | [], [], _ => .nil
  | u :: r, [], h => by cases u <;> cases h
  | [], _ :: _, h => by cases h
  | u :: r, x :: xs, h => by
    cases u with
    | str s t =>
      simp only [strTup, Bool.and_eq_true, decide_eq_true_eq] at h
      rw [← h.1]
      exact .cons ⟨t, rfl⟩ (strTup_ok h.2)
    | _ => cases h
theorem kst_tup {K : PySem.W.Frag} {h : Heap} {mg : Str → Option Value} {x : Str} {f : Addr} {od : Option Addr} {its : Array Value} {n : Nat} {sl : Array (Option Value)} {xs : List Str} (hK : g.K = K) (X : K.In h) (G : h.Ns mainGlobals mg) (a : PySem.W.nsIn K mainGlobals x = some (some (.ref f)))
    (l : K.lookup f = some ⟨.type "tuple", od, .seq its n, sl⟩) (z : strTup its.toList xs = true) (zs : decide (its.size ≤ 1000) = true) : Kst g mg x (.tup (xs.map D.str)) :=
  ⟨.ref f, _, PySem.W.mg_of X G a, rfl, fun ρ H => ⟨f, xs.map V.str, rfl, .inr ⟨_, its, n, by rw [hK]; exact l, rfl, rfl, Nat.le_trans (of_decide_eq_true zs) (by decide), strTup_ok z⟩, Rps.of_strs xs⟩⟩
theorem hu65 {k : Nat} {A : Around} (hr : Room k A) : A.units + 65 < cLine := by have := hr.un; omega
theorem free_of {K : PySem.W.Frag} {h : Heap} {mg : Str → Option Value} {x : Str} (X : K.In h) (G : h.Ns mainGlobals mg) (a : PySem.W.nsIn K mainGlobals x = some none) : mg x = none := PySem.W.mg_none_of X G a
theorem huH {k : Nat} {A : Around} (hr : L2H.RoomH k A) : A.units + 64 < cLine := by have := hr.un; omega
/-- a def of the top that makes lambdas: its code object -/
structure DfL (K : PySem.W.Frag) (mg : Str → Option Value) (x : Str) (s : Stmt) (ps : List Str) (c : Addr) : Prop where
  ex : ∃ (a : Addr) (oc : Value) (od : Option Addr) (kV doc pm : Value) (an : Option Addr) (ct : Value) (osl : Array (Option Value)),
    K.lookup a = some ⟨oc, od, .func (PySem.W.fnOf x x (defArgs s) (defBody s) (defScope s) .none kV doc pm an (.ref c) ct), osl⟩ ∧ PySem.W.codeIn K (.ref c) x = true ∧ PySem.W.keepIn K (.ref a) = true ∧ mg x = some (.ref a) ∧ ∀ us : List Value, us.length = ps.length → bindArgs (PySem.W.fnOf x x (defArgs s) (defBody s) (defScope s) .none kV doc pm an (.ref c) ct) ⟨us, []⟩ = pure (ps.zip us)
theorem dfL_mk {K : PySem.W.Frag} {h : Heap} {mg : Str → Option Value} {x : Str} {s : Stmt} {ps : List Str} {f c : Addr} {oc : Value} {od an : Option Addr} {osl : Array (Option Value)} {kV doc pm ct : Value} (X : K.In h) (G : h.Ns mainGlobals mg)
    (a : PySem.W.nsIn K mainGlobals x = some (some (.ref f))) (l : K.lookup f = some ⟨oc, od, .func (PySem.W.fnOf x x (defArgs s) (defBody s) (defScope s) .none kV doc pm an (.ref c) ct), osl⟩) (hc : PySem.W.codeIn K (.ref c) x = true) (k : PySem.W.keepIn K (.ref f) = true)
    (b : ∀ (kV doc pm : Value) (an : Option Addr) (cdv ct : Value) (us : List Value), us.length = ps.length → bindArgs (PySem.W.fnOf x x (defArgs s) (defBody s) (defScope s) .none kV doc pm an cdv ct) ⟨us, []⟩ = pure (ps.zip us)) : DfL K mg x s ps c :=
  ⟨f, oc, od, kV, doc, pm, an, ct, osl, l, hc, k, PySem.W.mg_of X G a, b kV doc pm an (.ref c) ct⟩
theorem caL_of {P : Program} {w : World} {mg : Str → Option Value} {base : Heap} {x : Str} {s : Stmt} {N ps : List Str} {k : Nat} {c : Addr} {f : FS} (D : DfL g.K mg x s ps c) (S : FnScope N ps (defScope s))
    (hbody : ∀ (fa : Addr) (A : Around) (outer : List PySem.Env) (s1 : Shared) (H : Hp) (E : XK), Room k (A.deeper (envOfC x (defScope s) s1.heap.objs.size fa (.ref c))) → SB g E (cxOf (L2N.CX P w) P w g.K mg base N x (defScope s) fa (.ref c) A outer s1 H E) (defBody s) f) :
    Ca g P w mg base (k + 1) x ps.length (callB N.length f) := by
  obtain ⟨a, oc, od, kV, doc, pm, an, ct, osl, lk, hcd, kp, m, b⟩ := D.ex
  refine ⟨a, _, ps, fn_of (N := N) lk hcd S (fun vs H Q E h => h.1) fun A outer s1 H vs Q E hr h => ?_, m, kp, .all b, rfl⟩
  obtain ⟨hl, ds, st, ρ, r, sr, ok⟩ := h
  exact ⟨_, pss_mx, hbody a A outer s1 H E hr rfl (L2N.takes_of rfl rfl rfl rfl) _ st _ H ρ _ (er_start r) sr (OkS.ofEnd sr ok)⟩
theorem lawL_of {P : Program} {w : World} {mg : Str → Option Value} {x p : Str} {s : Stmt} {N : List Str} {k : Nat} {c : Addr} {f : FS} {cs : List (Addr × Addr)} (D : DfL g.K mg x s [p] c) (S : FnScope N [p] (defScope s))
    (hbody : ∀ (base : Heap), (∀ p ∈ cs, LamX.TabB base mg p.1 p.2) → ∀ (fa : Addr) (A : Around) (outer : List PySem.Env) (s1 : Shared) (H : Hp) (E : XK), Room k (A.deeper (envOfC x (defScope s) s1.heap.objs.size fa (.ref c))) → SB g E (cxOf (L2N.CX P w) P w g.K mg base N x (defScope s) fa (.ref c) A outer s1 H E) (defBody s) f) :
    LawOk g P w mg cs (k + 1) x p (callB N.length f) := by
  obtain ⟨a, oc, od, kV, doc, pm, an, ct, osl, lk, hcd, kp, m, b⟩ := D.ex
  refine ⟨a, _, m, b, fun base TB => fn_of (N := N) lk hcd S (fun vs H Q E h => h.1) fun A outer s1 H vs Q E hr h => ?_⟩
  obtain ⟨hl, ds, st, ρ, r, sr, ok⟩ := h
  exact ⟨_, pss_mx, hbody base TB a A outer s1 H E hr rfl (L2N.takes_of rfl rfl rfl rfl) _ st _ H ρ _ (er_start r) sr (OkS.ofEnd sr ok)⟩
/-! ### the end -/
def noLists (K : PySem.W.Frag) : Bool := K.all fun p => p.2.cls != .type "list"
theorem sql_rd {K : PySem.W.Frag} {a : Addr} {xs : List V} (n : noLists K = true) (h : SqL K H a xs) : Rd H a (.lst xs) := by
  rcases h with h | ⟨o, its, k, e, hc, _⟩
  · exact h
  · have := List.all_eq_true.mp n (a, o) (PySem.W.mem_of_lookupK e)
    simp [hc] at this
/-- the law's promise at the script -/
theorem sp_law {c : List D → Store → R D} {a : Addr} {ns : List Int} {st' : Store} (hT : LamX.Tabs g.T H) (hR : Rd H a (.lst (ns.map V.int))) (hv : c [.lst (ns.map D.int)] [] = .ok (.bl true) st') : spD g 1 c [.ref a] H (fun v _ => v = .bl true) E := by
  refine ⟨rfl, [.lst (ns.map D.int)], [], ⟨[], []⟩, ?_, ⟨rfl, List.nodup_nil, fun _ _ z => (by cases z), fun _ z => (by cases z), fun n c h => by simp at h, hT⟩, ?_⟩
  · exact ⟨.ref a, [], rfl, ⟨a, ns.map V.int, rfl, ⟨⟨fun z => (by cases z), fun z => (by cases z)⟩, hR⟩, Rps.of_ints ns⟩, rfl⟩
  · rw [hv]
    exact fun v H' ρ' l s r => r
/-- an object is no table: K has none at P -/
def tabFree (K : PySem.W.Frag) (cs : List (Addr × Addr)) : Bool := cs.all fun p => (K.lookup p.2).isNone && PySem.W.codeHdIn K p.1 p.2
/-- THE END: what the law's object promises is what the walk asks -/
theorem at_law {l : PySem.W.OpenLaw} {w : World} {k : Nat} {x p : Str} {mg : Str → Option Value} {fa : Addr} {h : Heap} {cs : List (Addr × Addr)} {c : List D → Store → R D} (L : LawOk g l.prog w mg cs k x p c) (X : g.K.In h) (hfa : mg x = some (.ref fa)) (hT : ∀ p ∈ cs, h.get? p.2 = some { cls := .none, data := .fields #[] })
    (hf : tabFree g.K cs = true) (hgT : ∀ p ∈ g.T, p.1 ∈ cs.map (·.2)) (nl : noLists g.K = true) (hv : ∀ ns : List Int, ns.length ≤ 63 → (∀ z ∈ ns, Builtin.Int.intBits z ≤ 1048576) → ∃ st, c [.lst (ns.map D.int)] [] = .ok (.bl true) st) :
    LamX.LawAtS l w g.K (L2N.CX l.prog w) k 63 p mg fa h := by
  obtain ⟨a, fd, m, b, F⟩ := L.ex
  have e : a = fa := by
    rw [hfa] at m
    injection m with m
    injection m with m
    exact m.symm
  subst e
  have hf2 : ∀ p ∈ cs, g.K.lookup p.2 = none ∧ PySem.W.codeHdIn g.K p.1 p.2 = true := fun q hq => by
    have := List.all_eq_true.mp hf q hq
    simpa using this
  refine ⟨fd, cs, spD g 1 c, hT, fun q hq => (hf2 q hq).1, fun q hq => PySem.W.codeHd_of_K X (hf2 q hq).2, fun s u => .of_eq (b [u] rfl), fun H a ns hl hb hc hS => ?_, fun base _ _ TB => F base TB⟩
  obtain ⟨st, hv⟩ := hv ns hl hb
  refine sp_law (fun q hq => ?_) (sql_rd nl hS) hv
  obtain ⟨r, hr, e⟩ := List.mem_map.mp (hgT q hq)
  exact LamX.TabS.nil (by rw [← e]; exact hc r hr)
theorem hCX (P : World → Program) (w : World) (H : Hp) (s : Shared) (e : Value) (s' : Shared) (h : L2N.CX (P w) w [] H s (fun _ _ _ => False) e s') : False := by
  obtain ⟨_, _, _, _, _, _, _, _, _, _, _, _, z⟩ := h
  exact z
/-! ### facts by runs over the written part -/
def tabIn2 (K : PySem.W.Frag) (c : Addr) : Option Addr := match K.lookup c with
  | some ⟨_, _, .fields vs, _⟩ => (match (vs[11]? : Option Value) with
    | some (.ref P) => some P
    | _ => none)
  | _ => none
def bmVE : List Value := [.type "ValueError", .type "Exception", .type "BaseException", .type "object"]
def excOne (K : PySem.W.Frag) (C : Addr) : Bool :=
  PySem.W.excIn K C bmVE "ValueError.__new__" && PySem.W.keepIn K (.ref C) && (PySem.W.subIn K (.ref C) (.type "BaseException") == some true) && (PySem.W.typeIn K (.ref C) == some (.type "type"))
def excAll (K : PySem.W.Frag) (cs : List Addr) : Bool := cs.all (excOne K)
theorem excK_of {K : PySem.W.Frag} {h : Heap} {mg : Str → Option Value} {x : Str} {C : Addr} {cs : List Addr} (X : K.In h) (G : h.Ns mainGlobals mg) (e : excAll K cs = true) (hC : C ∈ cs) (a : PySem.W.nsIn K mainGlobals x = some (some (.ref C))) : ExcK K mg x C := by
  have h1 := List.all_eq_true.mp e C hC
  unfold excOne at h1
  simp only [Bool.and_eq_true, beq_iff_eq] at h1
  obtain ⟨⟨⟨h1, h2⟩, h3⟩, h4⟩ := h1
  exact ⟨⟨_, _, _, _, PySem.F.excBase_ValueError, h1⟩, PySem.W.mg_of X G a, h2, h3, h4⟩
def excC1 (K : PySem.W.Frag) (D : Addr) : Bool :=
  (PySem.W.findIn K (.ref D) "__getattribute__" == some (some (.builtin "BaseException.__getattribute__"))) && (PySem.W.findIn K (.ref D) "__getattr__" == some none) && (PySem.W.subIn K (.ref D) (.type "BaseException") == some true) && PySem.W.hasDictIn K D && (PySem.W.findIn K (.ref D) "__class__" == some (some (.builtin "object.__class__"))) &&
    (PySem.W.specialIn K (.builtin "object.__class__") "__get__" == some (some (.builtin "getset_descriptor.__get__"))) && (PySem.W.takesIn K (.builtin "object.__class__") == some true) && (PySem.W.mroIn K D (.type "object") == some true)
def excCs (K : PySem.W.Frag) (cs : List Addr) : Bool :=
  cs.all (excC1 K) && ((List.range cs.length).all fun c => (List.range cs.length).all fun k => PySem.W.kitOne K (.ref (cs.getD c 0)) (.ref (cs.getD k 0)) == some (decide (c = k))) && cs.all fun C => PySem.W.kitOne K (.ref C) (.type "ValueError") == some true
theorem getD_memA {cs : List Addr} {c : Nat} (h : c < cs.length) : cs.getD c 0 ∈ cs := by
  rw [List.getD_eq_getElem?_getD, List.getElem?_eq_getElem h]
  exact List.getElem_mem h
theorem excC_of {K : PySem.W.Frag} {cs : List Addr} (e : excCs K cs = true) : ∀ c, c < cs.length → ExcC K (cs.getD c 0) := fun c hc => by
  unfold excCs at e
  rw [Bool.and_eq_true, Bool.and_eq_true] at e
  have h := List.all_eq_true.mp e.1.1 _ (getD_memA hc)
  unfold excC1 at h
  simp only [Bool.and_eq_true, beq_iff_eq] at h
  obtain ⟨⟨⟨⟨⟨⟨⟨h1, h2⟩, h3⟩, h4⟩, h5⟩, h6⟩, h7⟩, h8⟩ := h
  exact ⟨h1, h2, h3, h4, h5, h6, h7, h8⟩
theorem kit_of {K : PySem.W.Frag} {cs : List Addr} (e : excCs K cs = true) : ∀ c k, c < cs.length → k < cs.length → PySem.W.kitOne K (.ref (cs.getD c 0)) (.ref (cs.getD k 0)) = some (decide (c = k)) := fun c k hc hk => by
  unfold excCs at e
  rw [Bool.and_eq_true, Bool.and_eq_true] at e
  exact beq_iff_eq.mp (List.all_eq_true.mp (List.all_eq_true.mp e.1.2 c (List.mem_range.mpr hc)) k (List.mem_range.mpr hk))
theorem kv_of {K : PySem.W.Frag} {cs : List Addr} (e : excCs K cs = true) : ∀ c, c < cs.length → PySem.W.kitOne K (.ref (cs.getD c 0)) (.type "ValueError") = some true := fun c hc => by
  unfold excCs at e
  rw [Bool.and_eq_true, Bool.and_eq_true] at e
  exact beq_iff_eq.mp (List.all_eq_true.mp e.2 _ (getD_memA hc))
def excHole (K : PySem.W.Frag) (H : Addr) (cs : List Addr) : Bool :=
  PySem.W.hasDictIn K H && (PySem.W.subIn K (.ref H) (.type "BaseException") == some true) && (PySem.W.typeIn K (.ref H) == some (.type "type")) && cs.all fun C => PySem.W.subIn K (.ref C) (.ref H) == some true
theorem hole_of {K : PySem.W.Frag} {H : Addr} {cs : List Addr} (e : excHole K H cs = true) : ∀ c, c < cs.length → PySem.W.exmOne K (.ref (cs.getD c 0)) (.ref H) = some true := fun c hc => by
  unfold excHole at e
  simp only [Bool.and_eq_true, beq_iff_eq] at e
  obtain ⟨⟨⟨h1, h2⟩, h3⟩, h4⟩ := e
  exact PySem.W.exm_ref h2 h1 h3 (beq_iff_eq.mp (List.all_eq_true.mp h4 _ (getD_memA hc)))
theorem uniq_of {T : List (Addr × Str)} {p : Addr × Str} {P : Addr} {q : Str} {i : Nat} (hn : (T.map (·.1)).Nodup) (hp : p ∈ T) (e : p.1 = P) (hi : T[i]? = some (P, q)) : p.2 = q := by
  obtain ⟨j, hj⟩ := List.mem_iff_getElem?.mp hp
  obtain ⟨h1, e1⟩ := List.getElem?_eq_some_iff.mp hi
  obtain ⟨h2, e2⟩ := List.getElem?_eq_some_iff.mp hj
  have : j = i := by
    refine (List.getElem_inj (h₀ := by simpa using h2) (h₁ := by simpa using h1) hn).mp ?_
    rw [List.getElem_map, List.getElem_map, e1, e2, e]
  subst this
  rw [hi] at hj
  cases hj
  rfl
end Hw
/-! HwM: a rule an operator, a built-in, a method. -/
namespace Hw
open PySem PySem.Spec PyProof.Rows L2
variable {g : G} {E : XK} {X : Cx} {a b e : Expr} {es : List Expr} {f k : FE} {fa : FA} {pos p apos cpos : Pos}
section
theorem se_add (ha : SE g E X a f) (hb : SE g E X b k) : SE g E X (.BinOp a .Add b pos) (fOp dAdd f k) := .mk fun hK => se_op op_addAll (sop_add hK) ha hb hK
theorem se_addM (ha : SE g E X a f) (hb : SE g E X b k) : SE g E X (.BinOp a .Add b pos) (fOp dAddM f k) := .mk fun hK => se_op op_catR sop_addM ha hb hK
theorem se_sub (ha : SE g E X a f) (hb : SE g E X b k) : SE g E X (.BinOp a .Sub b pos) (fOp dSub f k) := .mk fun hK => se_op op_sub sop_sub ha hb hK
theorem se_mul (ha : SE g E X a f) (hb : SE g E X b k) : SE g E X (.BinOp a .Mult b pos) (fOp dMulD f k) := .mk fun hK => se_op op_mulD (sop_mulD hK) ha hb hK
theorem se_div (ha : SE g E X a f) (hb : SE g E X b k) : SE g E X (.BinOp a .FloorDiv b pos) (fOp dDiv f k) := .mk fun hK => se_op op_fdivW sop_div ha hb hK
theorem se_mod (ha : SE g E X a f) (hb : SE g E X b k) : SE g E X (.BinOp a .Mod b pos) (fOp dMod f k) := .mk fun hK => se_op op_mod sop_mod ha hb hK
theorem se_pow (ha : SE g E X a f) (hb : SE g E X b k) : SE g E X (.BinOp a .Pow b pos) (fOp dPow f k) := .mk fun hK => se_op op_pow sop_pow ha hb hK
theorem se_eq (hu : X.A.units + 64 < cLine) (ha : SE g E X a f) (hb : SE g E X b k) : SE g E X (.Compare a [.Eq] [b] pos) (fOp dEq f k) := .mk fun hK => se_cmp (op_eqD hu) (sop_eq hK) ha hb (nomark b) hK
theorem st_eq (hu : X.A.units + 64 < cLine) (ha : SE g E X a f) (hb : SE g E X b k) : ST g E X (.Compare a [.Eq] [b] pos) (fTru (fOp dEq f k)) := .mk fun hK => st_cmp (op_eqD hu) (sop_eq hK) ha hb (nomark b) hK
theorem se_ne (hu : X.A.units + 64 < cLine) (ha : SE g E X a f) (hb : SE g E X b k) : SE g E X (.Compare a [.NotEq] [b] pos) (fOp dNe f k) := .mk fun hK => se_cmp (op_neD hu) (sop_ne hK) ha hb (nomark b) hK
theorem st_ne (hu : X.A.units + 64 < cLine) (ha : SE g E X a f) (hb : SE g E X b k) : ST g E X (.Compare a [.NotEq] [b] pos) (fTru (fOp dNe f k)) := .mk fun hK => st_cmp (op_neD hu) (sop_ne hK) ha hb (nomark b) hK
theorem se_lt (ha : SE g E X a f) (hb : SE g E X b k) : SE g E X (.Compare a [.Lt] [b] pos) (fOp (dOrd iLt) f k) := .mk fun hK => se_cmp op_lt sop_ord ha hb (nomark b) hK
theorem st_lt (ha : SE g E X a f) (hb : SE g E X b k) : ST g E X (.Compare a [.Lt] [b] pos) (fTru (fOp (dOrd iLt) f k)) := .mk fun hK => st_cmp op_lt sop_ord ha hb (nomark b) hK
theorem se_le (ha : SE g E X a f) (hb : SE g E X b k) : SE g E X (.Compare a [.LtE] [b] pos) (fOp (dOrd iLe) f k) := .mk fun hK => se_cmp op_le sop_ord ha hb (nomark b) hK
theorem st_le (ha : SE g E X a f) (hb : SE g E X b k) : ST g E X (.Compare a [.LtE] [b] pos) (fTru (fOp (dOrd iLe) f k)) := .mk fun hK => st_cmp op_le sop_ord ha hb (nomark b) hK
theorem se_gt (ha : SE g E X a f) (hb : SE g E X b k) : SE g E X (.Compare a [.Gt] [b] pos) (fOp (dOrd iGt) f k) := .mk fun hK => se_cmp op_gt sop_ord ha hb (nomark b) hK
theorem st_gt (ha : SE g E X a f) (hb : SE g E X b k) : ST g E X (.Compare a [.Gt] [b] pos) (fTru (fOp (dOrd iGt) f k)) := .mk fun hK => st_cmp op_gt sop_ord ha hb (nomark b) hK
theorem se_ge (ha : SE g E X a f) (hb : SE g E X b k) : SE g E X (.Compare a [.GtE] [b] pos) (fOp (dOrd iGe) f k) := .mk fun hK => se_cmp op_ge sop_ord ha hb (nomark b) hK
theorem st_ge (ha : SE g E X a f) (hb : SE g E X b k) : ST g E X (.Compare a [.GtE] [b] pos) (fTru (fOp (dOrd iGe) f k)) := .mk fun hK => st_cmp op_ge sop_ord ha hb (nomark b) hK
theorem se_isN (ha : SE g E X a f) (hb : SE g E X b k) : SE g E X (.Compare a [.Is] [b] pos) (fOp dIsN f k) := .mk fun hK => se_cmp op_isN sop_isN ha hb (nomark b) hK
theorem st_isN (ha : SE g E X a f) (hb : SE g E X b k) : ST g E X (.Compare a [.Is] [b] pos) (fTru (fOp dIsN f k)) := .mk fun hK => st_cmp op_isN sop_isN ha hb (nomark b) hK
theorem se_notN (ha : SE g E X a f) (hb : SE g E X b k) : SE g E X (.Compare a [.IsNot] [b] pos) (fOp dNotN f k) := .mk fun hK => se_cmp op_notN sop_notN ha hb (nomark b) hK
theorem st_notN (ha : SE g E X a f) (hb : SE g E X b k) : ST g E X (.Compare a [.IsNot] [b] pos) (fTru (fOp dNotN f k)) := .mk fun hK => st_cmp op_notN sop_notN ha hb (nomark b) hK
theorem se_in (hu : X.A.units + 65 < cLine) (ha : SE g E X a f) (hb : SE g E X b k) (hm : behindInMarks .In b = false := by rfl) : SE g E X (.Compare a [.In] [b] pos) (fOp dIn f k) := .mk fun hK => se_cmp (op_inAll hu) (sop_in hK) ha hb hm hK
theorem st_in (hu : X.A.units + 65 < cLine) (ha : SE g E X a f) (hb : SE g E X b k) (hm : behindInMarks .In b = false := by rfl) : ST g E X (.Compare a [.In] [b] pos) (fTru (fOp dIn f k)) := .mk fun hK => st_cmp (op_inAll hu) (sop_in hK) ha hb hm hK
theorem se_notIn (hu : X.A.units + 65 < cLine) (ha : SE g E X a f) (hb : SE g E X b k) (hm : behindInMarks .NotIn b = false := by rfl) : SE g E X (.Compare a [.NotIn] [b] pos) (fOp dNotIn f k) := .mk fun hK => se_cmp (op_notInAll hu) (sop_notIn hK) ha hb hm hK
theorem st_notIn (hu : X.A.units + 65 < cLine) (ha : SE g E X a f) (hb : SE g E X b k) (hm : behindInMarks .NotIn b = false := by rfl) : ST g E X (.Compare a [.NotIn] [b] pos) (fTru (fOp dNotIn f k)) := .mk fun hK => st_cmp (op_notInAll hu) (sop_notIn hK) ha hb hm hK
theorem se_item (ha : SE g E X a f) (hb : SE g E X b k) (hs : ∀ o i, subscripted b false o i = operate [o, i] (getItem o i) := by first | (intro _ _; rfl) | exact fun _ _ => rfl) : SE g E X (.Subscript a b pos) (fOp dIx f k) := se_ix ha hb hs
theorem bb_len : bootBuiltins "len" = some (.builtin "len") := by decide +kernel
theorem bb_max : bootBuiltins "max" = some (.builtin "max") := by decide +kernel
theorem bb_min : bootBuiltins "min" = some (.builtin "min") := by decide +kernel
theorem bb_sum : bootBuiltins "sum" = some (.builtin "sum") := by decide +kernel
theorem bb_all : bootBuiltins "all" = some (.builtin "all") := by decide +kernel
theorem bb_any : bootBuiltins "any" = some (.builtin "any") := by decide +kernel
theorem bb_tuple : bootBuiltins "tuple" = some (.type "tuple") := by decide +kernel
theorem bb_list : bootBuiltins "list" = some (.type "list") := by decide +kernel
theorem bb_str : bootBuiltins "str" = some (.type "str") := by decide +kernel
theorem bb_int : bootBuiltins "int" = some (.type "int") := by decide +kernel
theorem bb_dict : bootBuiltins "dict" = some (.type "dict") := by decide +kernel
theorem bb_bool : bootBuiltins "bool" = some (.type "bool") := by decide +kernel
theorem bb_ValueError : bootBuiltins "ValueError" = some (.type "ValueError") := by decide +kernel
theorem sf_len (hg : Gl X "len") (hm : X.mg "len" = none) (ha : SA g E X (e :: es) fa) (he : starEach (e :: es) X.env = (false, eval e X.env) :: starEach es X.env := by rfl) (hpl : (backTo pos (starEach es X.env)).any (·.1) = false := by rfl) : SE g E X (.Call (.Name "len" p) (e :: es) [] pos) (fCB dLen fa) := .mk fun hK => se_cb call_lenAll (sc_len hK) hg hm bb_len ha (by decide) (by decide) he hpl hK
theorem sf_max (hc : X.calm = true) (hg : Gl X "max") (hm : X.mg "max" = none) (ha : SA g E X (e :: es) fa) (he : starEach (e :: es) X.env = (false, eval e X.env) :: starEach es X.env := by rfl) (hpl : (backTo pos (starEach es X.env)).any (·.1) = false := by rfl) : SE g E X (.Call (.Name "max" p) (e :: es) [] pos) (fCB dMax fa) := .mk fun hK => se_cb (call_max2 hc) sc_max hg hm bb_max ha (by decide) (by decide) he hpl hK
theorem sf_min (hc : X.calm = true) (hg : Gl X "min") (hm : X.mg "min" = none) (ha : SA g E X (e :: es) fa) (he : starEach (e :: es) X.env = (false, eval e X.env) :: starEach es X.env := by rfl) (hpl : (backTo pos (starEach es X.env)).any (·.1) = false := by rfl) : SE g E X (.Call (.Name "min" p) (e :: es) [] pos) (fCB dMin fa) := .mk fun hK => se_cb (call_min2 hc) sc_min hg hm bb_min ha (by decide) (by decide) he hpl hK
theorem sf_sum (hc : X.calm = true) (hg : Gl X "sum") (hm : X.mg "sum" = none) (ha : SA g E X (e :: es) fa) (he : starEach (e :: es) X.env = (false, eval e X.env) :: starEach es X.env := by rfl) (hpl : (backTo pos (starEach es X.env)).any (·.1) = false := by rfl) : SE g E X (.Call (.Name "sum" p) (e :: es) [] pos) (fCB dSum fa) := by
  refine .mk ?_
  intro hK
  have hr := (cr_sum hc)
  rw [hK] at hr
  exact se_cb hr sc_sum hg hm bb_sum ha (by decide) (by decide) he hpl hK
theorem sf_all (hc : X.calm = true) (hg : Gl X "all") (hm : X.mg "all" = none) (ha : SA g E X (e :: es) fa) (he : starEach (e :: es) X.env = (false, eval e X.env) :: starEach es X.env := by rfl) (hpl : (backTo pos (starEach es X.env)).any (·.1) = false := by rfl) : SE g E X (.Call (.Name "all" p) (e :: es) [] pos) (fCB dAll fa) := by
  refine .mk ?_
  intro hK
  have hr := (cr_all hc)
  rw [hK] at hr
  exact se_cb hr sc_all hg hm bb_all ha (by decide) (by decide) he hpl hK
theorem sf_any (hc : X.calm = true) (hg : Gl X "any") (hm : X.mg "any" = none) (ha : SA g E X (e :: es) fa) (he : starEach (e :: es) X.env = (false, eval e X.env) :: starEach es X.env := by rfl) (hpl : (backTo pos (starEach es X.env)).any (·.1) = false := by rfl) : SE g E X (.Call (.Name "any" p) (e :: es) [] pos) (fCB dAny fa) := by
  refine .mk ?_
  intro hK
  have hr := (cr_any hc)
  rw [hK] at hr
  exact se_cb hr sc_any hg hm bb_any ha (by decide) (by decide) he hpl hK
theorem sf_tuple (hg : Gl X "tuple") (hm : X.mg "tuple" = none) (ha : SA g E X (e :: es) fa) (he : starEach (e :: es) X.env = (false, eval e X.env) :: starEach es X.env := by rfl) (hpl : (backTo pos (starEach es X.env)).any (·.1) = false := by rfl) : SE g E X (.Call (.Name "tuple" p) (e :: es) [] pos) (fCB dTuple fa) := .mk fun hK => se_ct call_tuple_of (sc_tuple hK) hg hm bb_tuple ha (by decide) (by decide) he hpl hK
theorem sf_list (hg : Gl X "list") (hm : X.mg "list" = none) (ha : SA g E X (e :: es) fa) (he : starEach (e :: es) X.env = (false, eval e X.env) :: starEach es X.env := by rfl) (hpl : (backTo pos (starEach es X.env)).any (·.1) = false := by rfl) : SE g E X (.Call (.Name "list" p) (e :: es) [] pos) (fCB dList fa) := .mk fun hK => se_ct call_list_of (sc_list hK) hg hm bb_list ha (by decide) (by decide) he hpl hK
theorem sf_listM (hg : Gl X "list") (hm : X.mg "list" = none) (ha : SA g E X (e :: es) fa) (he : starEach (e :: es) X.env = (false, eval e X.env) :: starEach es X.env := by rfl) (hpl : (backTo pos (starEach es X.env)).any (·.1) = false := by rfl) : SE g E X (.Call (.Name "list" p) (e :: es) [] pos) (fCB dListM fa) := .mk fun hK => se_ct call_list_of (sc_listM hK) hg hm bb_list ha (by decide) (by decide) he hpl hK
theorem sf_str (hg : Gl X "str") (hm : X.mg "str" = none) (ha : SA g E X (e :: es) fa) (he : starEach (e :: es) X.env = (false, eval e X.env) :: starEach es X.env := by rfl) (hpl : (backTo pos (starEach es X.env)).any (·.1) = false := by rfl) : SE g E X (.Call (.Name "str" p) (e :: es) [] pos) (fCB dStr fa) := .mk fun hK => se_ct call_str_int sc_str hg hm bb_str ha (by decide) (by decide) he hpl hK
theorem sf_int (hg : Gl X "int") (hm : X.mg "int" = none) (ha : SA g E X (e :: es) fa) (he : starEach (e :: es) X.env = (false, eval e X.env) :: starEach es X.env := by rfl) (hpl : (backTo pos (starEach es X.env)).any (·.1) = false := by rfl) : SE g E X (.Call (.Name "int" p) (e :: es) [] pos) (fCB dInt fa) := .mk fun hK => se_ct call_intAll sc_int hg hm bb_int ha (by decide) (by decide) he hpl hK
theorem sf_is_str {p2 : Pos} (he : SE g E X e f) (hg : Gl X "isinstance") (hm : X.mg "isinstance" = none) (hgT : Gl X "str") (hmT : X.mg "str" = none) (hs : starEach [e, .Name "str" p2] X.env = (false, eval e X.env) :: starEach [.Name "str" p2] X.env := by rfl) (hpl : (backTo pos (starEach [.Name "str" p2] X.env)).any (·.1) = false := by rfl) : SE g E X (.Call (.Name "isinstance" p) [e, .Name "str" p2] [] pos) (fIsi .str f) := se_isi (T := .str) he hg hm hgT hmT bb_str (by decide) (by decide) hs hpl
theorem sf_is_int {p2 : Pos} (he : SE g E X e f) (hg : Gl X "isinstance") (hm : X.mg "isinstance" = none) (hgT : Gl X "int") (hmT : X.mg "int" = none) (hs : starEach [e, .Name "int" p2] X.env = (false, eval e X.env) :: starEach [.Name "int" p2] X.env := by rfl) (hpl : (backTo pos (starEach [.Name "int" p2] X.env)).any (·.1) = false := by rfl) : SE g E X (.Call (.Name "isinstance" p) [e, .Name "int" p2] [] pos) (fIsi .int f) := se_isi (T := .int) he hg hm hgT hmT bb_int (by decide) (by decide) hs hpl
theorem sf_is_bool {p2 : Pos} (he : SE g E X e f) (hg : Gl X "isinstance") (hm : X.mg "isinstance" = none) (hgT : Gl X "bool") (hmT : X.mg "bool" = none) (hs : starEach [e, .Name "bool" p2] X.env = (false, eval e X.env) :: starEach [.Name "bool" p2] X.env := by rfl) (hpl : (backTo pos (starEach [.Name "bool" p2] X.env)).any (·.1) = false := by rfl) : SE g E X (.Call (.Name "isinstance" p) [e, .Name "bool" p2] [] pos) (fIsi .bl f) := se_isi (T := .bl) he hg hm hgT hmT bb_bool (by decide) (by decide) hs hpl
theorem sf_is_list {p2 : Pos} (he : SE g E X e f) (hg : Gl X "isinstance") (hm : X.mg "isinstance" = none) (hgT : Gl X "list") (hmT : X.mg "list" = none) (hs : starEach [e, .Name "list" p2] X.env = (false, eval e X.env) :: starEach [.Name "list" p2] X.env := by rfl) (hpl : (backTo pos (starEach [.Name "list" p2] X.env)).any (·.1) = false := by rfl) : SE g E X (.Call (.Name "isinstance" p) [e, .Name "list" p2] [] pos) (fIsi .lst f) := se_isi (T := .lst) he hg hm hgT hmT bb_list (by decide) (by decide) hs hpl
theorem sf_is_tuple {p2 : Pos} (he : SE g E X e f) (hg : Gl X "isinstance") (hm : X.mg "isinstance" = none) (hgT : Gl X "tuple") (hmT : X.mg "tuple" = none) (hs : starEach [e, .Name "tuple" p2] X.env = (false, eval e X.env) :: starEach [.Name "tuple" p2] X.env := by rfl) (hpl : (backTo pos (starEach [.Name "tuple" p2] X.env)).any (·.1) = false := by rfl) : SE g E X (.Call (.Name "isinstance" p) [e, .Name "tuple" p2] [] pos) (fIsi .tup f) := se_isi (T := .tup) he hg hm hgT hmT bb_tuple (by decide) (by decide) hs hpl
theorem sf_is_dict {p2 : Pos} (he : SE g E X e f) (hg : Gl X "isinstance") (hm : X.mg "isinstance" = none) (hgT : Gl X "dict") (hmT : X.mg "dict" = none) (hs : starEach [e, .Name "dict" p2] X.env = (false, eval e X.env) :: starEach [.Name "dict" p2] X.env := by rfl) (hpl : (backTo pos (starEach [.Name "dict" p2] X.env)).any (·.1) = false := by rfl) : SE g E X (.Call (.Name "isinstance" p) [e, .Name "dict" p2] [] pos) (fIsi .dic f) := se_isi (T := .dic) he hg hm hgT hmT bb_dict (by decide) (by decide) hs hpl
theorem sm0_upper (ho : SE g E X a f) (hbase : attributeBase a "upper" X.env (eval a X.env) = eval a X.env := by rfl) (hline : (apos.endLine == cpos.line) = true := by rfl) : SE g E X (.Call (.Attribute a "upper" apos) [] [] cpos) (fM0 .str dUpper f) := se_m0 (T := .str) F.plainAttrs_str F.slot_str_upper F.type_str_upper mt_upper sm_upper ho hbase hline
theorem sm0_lower (ho : SE g E X a f) (hbase : attributeBase a "lower" X.env (eval a X.env) = eval a X.env := by rfl) (hline : (apos.endLine == cpos.line) = true := by rfl) : SE g E X (.Call (.Attribute a "lower" apos) [] [] cpos) (fM0 .str dLower f) := se_m0 (T := .str) F.plainAttrs_str F.slot_str_lower F.type_str_lower mt_lower sm_lower ho hbase hline
theorem sm1_join (ho : SE g E X a f) (ha : SA g E X (e :: es) fa) (hbase : attributeBase a "join" X.env (eval a X.env) = eval a X.env := by rfl) (hfew : ((backTo cpos (starEach (e :: es) X.env)).all (fun x => !x.1) && (backToKw cpos (keywordEach [] X.env)).all (fun x => x.1.isSome) && decide ((e :: es).length + ([] : List Keyword).length + (if ([] : List Keyword).isEmpty then 0 else 1) < 30)) = true := by rfl) (hline : (apos.endLine == cpos.line) = true := by rfl) (hs : starEach (e :: es) X.env = (false, eval e X.env) :: starEach es X.env := by rfl) (hplain : (backTo cpos (starEach es X.env)).any (·.1) = false := by rfl) : SE g E X (.Call (.Attribute a "join" apos) (e :: es) [] cpos) (fM .str dJoin f fa) := .mk fun hK => se_m (T := .str) F.plainAttrs_str F.slot_str_join F.type_str_join mt_join (sm_join hK) ho ha hbase hfew hline hs hplain hK
theorem sm1_index_s (ho : SE g E X a f) (ha : SA g E X (e :: es) fa) (hbase : attributeBase a "index" X.env (eval a X.env) = eval a X.env := by rfl) (hfew : ((backTo cpos (starEach (e :: es) X.env)).all (fun x => !x.1) && (backToKw cpos (keywordEach [] X.env)).all (fun x => x.1.isSome) && decide ((e :: es).length + ([] : List Keyword).length + (if ([] : List Keyword).isEmpty then 0 else 1) < 30)) = true := by rfl) (hline : (apos.endLine == cpos.line) = true := by rfl) (hs : starEach (e :: es) X.env = (false, eval e X.env) :: starEach es X.env := by rfl) (hplain : (backTo cpos (starEach es X.env)).any (·.1) = false := by rfl) : SE g E X (.Call (.Attribute a "index" apos) (e :: es) [] cpos) (fM .str dIndex f fa) := .mk fun hK => se_m (T := .str) F.plainAttrs_str F.slot_str_index F.type_str_index mt_sindex sm_index ho ha hbase hfew hline hs hplain hK
theorem sm1_index_l (ho : SE g E X a f) (ha : SA g E X (e :: es) fa) (hbase : attributeBase a "index" X.env (eval a X.env) = eval a X.env := by rfl) (hfew : ((backTo cpos (starEach (e :: es) X.env)).all (fun x => !x.1) && (backToKw cpos (keywordEach [] X.env)).all (fun x => x.1.isSome) && decide ((e :: es).length + ([] : List Keyword).length + (if ([] : List Keyword).isEmpty then 0 else 1) < 30)) = true := by rfl) (hline : (apos.endLine == cpos.line) = true := by rfl) (hs : starEach (e :: es) X.env = (false, eval e X.env) :: starEach es X.env := by rfl) (hplain : (backTo cpos (starEach es X.env)).any (·.1) = false := by rfl) : SE g E X (.Call (.Attribute a "index" apos) (e :: es) [] cpos) (fM .lst dIndexL f fa) := .mk fun hK => se_m (T := .lst) F.plainAttrs_list F.slot_list_index F.type_list_index mt_index sm_indexL ho ha hbase hfew hline hs hplain hK
theorem sm1_append (ho : SE g E X a f) (ha : SA g E X (e :: es) fa) (hbase : attributeBase a "append" X.env (eval a X.env) = eval a X.env := by rfl) (hfew : ((backTo cpos (starEach (e :: es) X.env)).all (fun x => !x.1) && (backToKw cpos (keywordEach [] X.env)).all (fun x => x.1.isSome) && decide ((e :: es).length + ([] : List Keyword).length + (if ([] : List Keyword).isEmpty then 0 else 1) < 30)) = true := by rfl) (hline : (apos.endLine == cpos.line) = true := by rfl) (hs : starEach (e :: es) X.env = (false, eval e X.env) :: starEach es X.env := by rfl) (hplain : (backTo cpos (starEach es X.env)).any (·.1) = false := by rfl) : SE g E X (.Call (.Attribute a "append" apos) (e :: es) [] cpos) (fM .lst dAppend f fa) := .mk fun hK => se_m (T := .lst) F.plainAttrs_list F.slot_list_append F.type_list_append mt_append sm_append ho ha hbase hfew hline hs hplain hK
theorem sf_sumH (hc : L2H.HotC X) (hg : Gl X "sum") (hm : X.mg "sum" = none) (ha : SA g E X (e :: es) fa) (he : starEach (e :: es) X.env = (false, eval e X.env) :: starEach es X.env := by rfl) (hpl : (backTo pos (starEach es X.env)).any (·.1) = false := by rfl) : SE g E X (.Call (.Name "sum" p) (e :: es) [] pos) (fCB dSum fa) := .mk fun hK => se_cb (call_sumH hc) sc_sumH hg hm bb_sum ha (by decide) (by decide) he hpl hK
end
end Hw
/-! HwP: plain lemmas about the evaluator: calls, loops, comprehensions; texts of plain signs. -/
namespace Hw
open PySem L2
variable {st : Store}
/-! ### calls -/
theorem callB_rt {m : Nat} {f : FS} {ds : List D} {st : Store} {d : D} (h : f (startD m ds) st = .rt d st) (hl : D.lim st.length d = true) : callB m f ds st = .ok d st := by
  unfold callB
  rw [h]
  exact fin_self st d hl
theorem callB_exc {m c : Nat} {f : FS} {ds : List D} {st : Store} (h : f (startD m ds) st = .exc c st) : callB m f ds st = .exc c st := by
  unfold callB
  rw [h]
  exact finX_self st c
theorem small_of {n : Nat} (h : n ≤ 100000) : small n = true := decide_eq_true h
/-! ### loops -/
theorem loopC_map {T : Tg} {f : FE} {σ : Hw.Env} {st : Store} {h : D → D} : ∀ {xs : List D}, (∀ x ∈ xs, ∃ σ1, T.d x σ = some σ1 ∧ f σ1 st = .ok (h x) st) → loopC T fYes f xs σ st = .ok (xs.map h) st
  | [], _ => rfl
  | x :: xs, H => by
    obtain ⟨σ1, e1, e2⟩ := H x List.mem_cons_self
    have ih := loopC_map (T := T) (f := f) (σ := σ) (st := st) (h := h) (xs := xs) fun y hy => H y (List.mem_cons_of_mem _ hy)
    simp only [loopC, e1, fYes, R.nox, R.bind, e2, ih, if_true, List.map_cons]
/-- [f for T in fi], each item to one -/
theorem fLc_map {fi : FI} {T : Tg} {f : FE} {vs : List Nat} {σ : Hw.Env} {st : Store} {xs : List D} {h : D → D} (e : fi σ st = .ok xs st) (hs : xs.length ≤ 100000) (H : ∀ x ∈ xs, ∃ σ1, T.d x (wipeD σ vs) = some σ1 ∧ f σ1 st = .ok (h x) st) : fLc fi T fYes f vs σ st = .ok (.lst (xs.map h)) st := by
  unfold fLc
  rw [e]
  simp only [R.bind, small_of hs, if_true, loopC_map H, R.nox]
/-- a loop that goes on to the end: I holds ahead of each item -/
theorem loopF_inv {T : Tg} {b : FS} (I : List D → Env → Store → Prop) : ∀ {xs : List D} {σ : Hw.Env} {st : Store}, I xs σ st → (∀ x r σ st, I (x :: r) σ st → ∃ σ1 σ2 st2, T.d x σ = some σ1 ∧ (b σ1 st = .nx σ2 st2 ∨ b σ1 st = .ct σ2 st2) ∧ I r σ2 st2) → ∃ σ' st', loopF T b xs σ st = .nx σ' st' ∧ I [] σ' st'
  | [], σ, st, h, _ => ⟨σ, st, rfl, h⟩
  | x :: xs, σ, st, h, H => by
    obtain ⟨σ1, σ2, st2, e1, e2, e3⟩ := H x xs σ st h
    obtain ⟨σ', st', e4, e5⟩ := loopF_inv I e3 H
    refine ⟨σ', st', ?_, e5⟩
    rcases e2 with e2 | e2 <;> simp only [loopF, e1, e2, e4]
/-! ### texts -/
def S (l : List Nat) : Str := ⟨l.toArray⟩
theorem S_list (l : List Nat) : (S l).cps.toList = l := rfl
theorem S_len (l : List Nat) : (S l).length = l.length := by simp [S, Str.length]
theorem S_of (s : Str) : S s.cps.toList = s := by cases s; simp [S]
theorem S_inj {a b : List Nat} (h : S a = S b) : a = b := by
  have := congrArg (fun s : Str => s.cps.toList) h
  simpa [S] using this
theorem S_app (a b : List Nat) : S a ++ S b = S (a ++ b) := by
  show Str.append (S a) (S b) = _
  simp [S, Str.append]
def upA (c : Nat) : Nat := if 97 ≤ c ∧ c ≤ 122 then c - 32 else c
def loA (c : Nat) : Nat := if 65 ≤ c ∧ c ≤ 90 then c + 32 else c
theorem upA_one : ∀ c, c < 128 → Unicode.upperOf c = [upA c] := by decide +kernel
theorem loA_one : ∀ c, c < 128 → Unicode.lowerOf c = [loA c] := by decide +kernel
theorem flat_one (f : Nat → List Nat) (g : Nat → Nat) : ∀ l : List Nat, (∀ c ∈ l, f c = [g c]) → (l.map fun c => f c).flatten = l.map g
  | [], _ => rfl
  | c :: l, h => by
    rw [List.map_cons, List.flatten_cons, h c List.mem_cons_self, flat_one f g l fun d hd => h d (List.mem_cons_of_mem _ hd)]
    rfl
theorem placed_map (l : List Nat) (f : Nat → Nat → List Nat) (g : Nat → Nat) (h : ∀ i c, l[i]? = some c → f i c = [g c]) : placed (S l) f = (l.map g).toArray := by
  unfold placed S
  have e : (l.toArray.mapIdx fun i c => (f i c).toArray) = (l.map fun c => #[g c]).toArray := by
    apply Array.ext_getElem?
    intro i
    simp only [Array.getElem?_mapIdx, List.getElem?_toArray, List.getElem?_map]
    cases q : l[i]? with
    | none => rfl
    | some c => simp [h i c q]
  show (l.toArray.mapIdx fun i c => (f i c).toArray).flatten = _
  rw [e]
  clear e h
  apply Array.toList_inj.mp
  rw [Array.toList_flatten]
  induction l with
  | nil => rfl
  | cons c l ih =>
    simp only [List.map_cons, List.flatten_cons]
    simp only [List.map_map] at ih ⊢
    rw [ih]
    rfl
theorem upper_S {l : List Nat} (h : ∀ c ∈ l, c < 128) : Txt.upper (S l) = S (l.map upA) := by
  unfold Txt.upper
  rw [placed_map l _ upA fun i c e => upA_one c (h c (List.mem_of_getElem? e))]
  rfl
theorem lower_S {l : List Nat} (h : ∀ c ∈ l, c < 128) : Txt.lower (S l) = S (l.map loA) := by
  unfold Txt.lower
  rw [placed_map l _ loA fun i c e => ?_]
  · rfl
  · have hc := h c (List.mem_of_getElem? e)
    have e2 : (S l).cps[i]? = some c := by simpa [S] using e
    unfold Unicode.lowerAt
    rw [e2]
    have : (c == 0x3A3) = false := by simp; omega
    simp only [this, Bool.false_and, Bool.false_eq_true, if_false]
    exact loA_one c hc
theorem glued0 : ∀ (l : List Nat) (acc : List Nat), (l.map fun c => S [c]).foldl (fun acc (p : Str) => acc ++ (S []).cps ++ p.cps) acc.toArray = (acc ++ l).toArray
  | [], acc => by simp
  | c :: l, acc => by
    have e : acc.toArray ++ (S []).cps ++ (S [c]).cps = (acc ++ [c]).toArray := by simp [S]
    rw [List.map_cons, List.foldl_cons, e, glued0 l (acc ++ [c]), List.append_assoc] <;> rfl
theorem join_S (l : List Nat) : Txt.join (S []) (l.map fun c => S [c]) = S l := by
  show Builtin.Str.glued (S []) (l.map fun c => S [c]) = S l
  unfold Builtin.Str.glued
  cases l with
  | nil => rfl
  | cons c l =>
    have := glued0 l [c]
    show (⟨_⟩ : Str) = _
    simp only [List.map_cons, List.drop_succ_cons, List.drop_zero, List.headD_cons]
    exact congrArg Str.mk this
/-! ### numbers, sameness -/
theorem pys_ints : ∀ ns : List Int, D.pys (ns.map D.int) = some (ns.map PyData.int)
  | [] => rfl
  | n :: ns => by simp only [List.map_cons, D.pys, D.py, pys_ints ns, Option.bind_some, Option.map_some]
theorem lay_ints : ∀ ns : List Int, PyData.canLayAll0 (ns.map PyData.int) = true
  | [] => rfl
  | n :: ns => by simp only [List.map_cons, PyData.canLayAll0, PyData.canLay0, lay_ints ns, Bool.and_true]
theorem depth_ints : ∀ ns : List Int, PyData.depthAll (ns.map PyData.int) = 0
  | [] => rfl
  | n :: ns => by simp only [List.map_cons, PyData.depthAll, PyData.depth, depth_ints ns, Nat.max_self]
theorem pyOf_ints (ns : List Int) (st : Store) : pyOf st (.lst (ns.map D.int)) = some (.list (ns.map PyData.int)) := by
  have h : SeqAt.shaped (.list (ns.map PyData.int)) = true := by
    unfold SeqAt.shaped
    simp only [PyData.canLay0, PyData.depth, lay_ints, depth_ints]
    decide
  unfold pyOf see
  simp only [listOf, D.py, pys_ints, Option.map_some, Option.bind_some, h, if_true]
theorem dEq_nil (ns : List Int) (st : Store) : dEq (.lst (ns.map D.int)) (.lst []) st = some (.bl ns.isEmpty, st) := by
  unfold dEq
  rw [pyOf_ints, show pyOf st (.lst []) = some (.list []) from rfl]
  cases ns <;> simp [PyData.eqv, PyData.eqvAll]
theorem strOk_of {s : Str} (h : ∀ c ∈ s.cps.toList, c < 0x110000) : pyOf st (.str s) = some (.str s) := by
  have h2 : SeqAt.shaped (.str s) = true := by
    unfold SeqAt.shaped
    have : PyData.canLay0 (.str s) = true := by
      simp only [PyData.canLay0]
      unfold PyData.strOk
      rw [Array.all_eq_true']
      exact fun c hc => decide_eq_true (h c (by simpa using hc))
    rw [this]
    rfl
  unfold pyOf see
  simp only [listOf, D.py, Option.bind_some, h2, if_true]
theorem dEq_str {a b : Str} (ha : ∀ c ∈ a.cps.toList, c < 0x110000) (hb : ∀ c ∈ b.cps.toList, c < 0x110000) (st : Store) : dEq (.str a) (.str b) st = some (.bl (decide (a = b)), st) := by
  unfold dEq
  rw [strOk_of ha, strOk_of hb]
  simp only [Option.bind_some, PyData.eqv]
  by_cases h : a = b <;> simp [h]
theorem dNe_str {a b : Str} (ha : ∀ c ∈ a.cps.toList, c < 0x110000) (hb : ∀ c ∈ b.cps.toList, c < 0x110000) (st : Store) : dNe (.str a) (.str b) st = some (.bl (!decide (a = b)), st) := by
  unfold dNe
  rw [strOk_of ha, strOk_of hb]
  simp only [Option.bind_some, PyData.eqv]
  by_cases h : a = b <;> simp [h]
theorem atI_in {α : Type} {xs : List α} {i : Int} (h0 : 0 ≤ i) (h1 : i < xs.length) : ∃ x, xs[i.toNat]? = some x ∧ atI xs i = some x := by
  have hl : i.toNat < xs.length := by omega
  refine ⟨xs[i.toNat], List.getElem?_eq_getElem hl, ?_⟩
  unfold L2.atI L2.ixN
  rw [if_pos h0, if_pos h1]
  exact List.getElem?_eq_getElem hl
theorem mulOk_c {i j : Int} (h : -(2 ^ 64) < j ∧ j < 2 ^ 64) : mulOk i j = true := by
  unfold mulOk
  rw [decide_eq_true h, Bool.or_true, Bool.true_or]
theorem strsOf_map : ∀ ts : List Str, strsOf (ts.map D.str) = some ts
  | [] => rfl
  | t :: ts => by simp only [List.map_cons, strsOf, strsOf_map ts, Option.map_some]
theorem ones_sum : ∀ l : List Nat, ((l.map fun c => S [c]).map (·.length)).sum = l.length
  | [] => rfl
  | c :: l => by
    rw [List.map_cons, List.map_cons, List.sum_cons, ones_sum l, List.length_cons, S_len, List.length_singleton, Nat.add_comm]
theorem dJoin_S {l : List Nat} (h : l.length ≤ 100000) (st : Store) : dJoin (.str "") [.lst ((l.map fun c => S [c]).map D.str)] st = some (.str (S l), st) := by
  unfold dJoin
  simp only [seqOf, Hw.listOf, Option.bind_some, strsOf_map]
  have e : ("" : Str) = S [] := rfl
  have z : small (((l.map fun c => S [c]).map (·.length)).sum + (l.map fun c => S [c]).length * ("" : Str).length) = true := by
    rw [ones_sum, e, S_len, List.length_nil, Nat.mul_zero, Nat.add_zero]
    exact small_of h
  rw [z, if_pos rfl, e, join_S]
theorem join_lc {F : FE} {σ : Hw.Env} {l : List Nat} (h : F σ st = .ok (.lst ((l.map fun c => S [c]).map D.str)) st) (hl : l.length ≤ 100000) : fM .str dJoin (fC (.str "")) (fCons F fNil) σ st = .ok (.str (S l)) st := by
  simp only [fM, fC, R.bind, fCons, h, fNil, dJoin_S hl, R.of, isTy, if_true]
/-- a def called for each sign -/
theorem lc_signs {fi : FI} {cf : List D → Store → R D} {f : Nat → Nat} {i : Nat} {σ : Hw.Env} {l : List Nat} (hi : i < σ.length) (e : fi σ st = .ok (l.map fun c => D.str (S [c])) st) (hl : l.length ≤ 100000) (H : ∀ c ∈ l, cf [.str (S [c])] st = .ok (.str (S [f c])) st) :
    fLc fi (.nm i) fYes (fCall cf (fCons (fVar i) fNil)) [i] σ st = .ok (.lst (((l.map f).map fun c => S [c]).map D.str)) st := by
  have h := fLc_map (fi := fi) (T := .nm i) (f := fCall cf (fCons (fVar i) fNil)) (vs := [i]) (σ := σ) (st := st) (h := fun d => match d with
    | .str s => .str (S (s.cps.toList.map f))
    | d => d) e (by simpa using hl) (fun x hx => by
    obtain ⟨c, hc, ex⟩ := List.mem_map.mp hx
    subst ex
    refine ⟨_, rfl, ?_⟩
    have g : ((wipeD σ [i]).set i (some (.str (S [c]))))[i]? = some (some (.str (S [c]))) := List.getElem?_set_self (by show i < (σ.set i none).length; rw [List.length_set]; exact hi)
    simp only [fCall, fCons, fVar, fNil, R.bind, g, H c hc]
    rfl)
  rw [h]
  simp [List.map_map, Function.comp_def, S]
theorem it_var {i : Nat} {σ : Hw.Env} {l : List Nat} (h : σ[i]? = some (some (.str (S l)))) : fIter (fVar i) σ st = .ok (l.map fun c => D.str (S [c])) st := by
  simp only [fIter, fVar, h, R.bind, itemsOf, R.of, Option.map_some, S_list]
  rfl
theorem cut_1 (l : List Nat) : cutS (S l) none (some 1) = S (l.take 1) := by
  unfold cutS
  rw [S_list, S_len]
  cases l with
  | nil => rfl
  | cons c l => simp [HT.sIx, S]
theorem cut_2 (l : List Nat) : cutS (S l) (some 1) none = S (l.drop 1) := by
  unfold cutS
  rw [S_list, S_len]
  cases l with
  | nil => rfl
  | cons c l => simp [HT.sIx, S, Nat.add_sub_cancel]
theorem hd_cut {i : Nat} {σ : Hw.Env} {l : List Nat} (h : σ[i]? = some (some (.str (S l)))) (hl : l.length ≤ 100000) : fSlice (fVar i) fNoPart (fPart (fC (.int 1))) σ st = .ok (.str (S (l.take 1))) st := by
  simp only [fSlice, fVar, h, R.bind, fNoPart, fPart, fC, dCut, S_len, small_of hl, if_true, R.of, cut_1]
theorem tl_cut {i : Nat} {σ : Hw.Env} {l : List Nat} (h : σ[i]? = some (some (.str (S l)))) (hl : l.length ≤ 100000) : fSlice (fVar i) (fPart (fC (.int 1))) fNoPart σ st = .ok (.str (S (l.drop 1))) st := by
  simp only [fSlice, fVar, h, R.bind, fNoPart, fPart, fC, dCut, S_len, small_of hl, if_true, R.of, cut_2]
theorem add_S {a b : List Nat} (h : a.length + b.length ≤ 100000) : dAdd (.str (S a)) (.str (S b)) st = some (.str (S (a ++ b)), st) := by
  simp only [dAdd, S_len, small_of h, if_true, S_app]
theorem dEq_int (i j : Int) : dEq (.int i) (.int j) st = some (.bl (i == j), st) := rfl
theorem ix_S {l : List Nat} {i : Int} {c : Nat} (hl : l.length ≤ 100000) (h : atI l i = some c) : dIx (.str (S l)) (.int i) st = some (.str (S [c]), st) := by
  simp only [dIx, S_len, small_of hl, if_true, S_list, h, Option.map_some]
  rfl
theorem atI_nat {α : Type} {xs : List α} {i : Nat} {x : α} (h : xs[i]? = some x) : atI xs (i : Nat) = some x := by
  have hl := (List.getElem?_eq_some_iff.mp h).1
  unfold atI ixN
  rw [if_pos (by omega), if_pos (by omega)]
  simpa using h
theorem numbered_append : ∀ (n : Nat) (a b : List D), numbered n (a ++ b) = numbered n a ++ numbered (n + a.length) b
  | n, [], b => rfl
  | n, x :: a, b => by
    simp only [List.cons_append, numbered, numbered_append (n + 1) a b, List.length_cons]
    rw [show n + 1 + a.length = n + (a.length + 1) by omega]
theorem call1 {c : List D → Store → R D} {f : FE} {x z : D} {σ : Hw.Env} (hf : f σ st = .ok x st) (hc : c [x] st = .ok z st) : fCall c (fCons f fNil) σ st = .ok z st := by
  simp only [fCall, fCons, fNil, R.bind, hf, hc]
theorem call2 {c : List D → Store → R D} {f k : FE} {x y z : D} {σ : Hw.Env} (hf : f σ st = .ok x st) (hk : k σ st = .ok y st) (hc : c [x, y] st = .ok z st) : fCall c (fCons f (fCons k fNil)) σ st = .ok z st := by
  simp only [fCall, fCons, fNil, R.bind, hf, hk, hc]
theorem call3 {c : List D → Store → R D} {f k m : FE} {x y u z : D} {σ : Hw.Env} (hf : f σ st = .ok x st) (hk : k σ st = .ok y st) (hm : m σ st = .ok u st) (hc : c [x, y, u] st = .ok z st) : fCall c (fCons f (fCons k (fCons m fNil))) σ st = .ok z st := by
  simp only [fCall, fCons, fNil, R.bind, hf, hk, hm, hc]
theorem op2 {d : D → D → Store → Option (D × Store)} {f k : FE} {x y z : D} {σ : Hw.Env} (hf : f σ st = .ok x st) (hk : k σ st = .ok y st) (hc : d x y st = some (z, st)) : fOp d f k σ st = .ok z st := by
  simp only [fOp, R.bind, hf, hk, hc, R.of]
theorem ne_S {l : List Nat} (h : ∀ c ∈ l, c < 128) : dNe (.str (S l)) (.str (S l)) st = some (.bl false, st) := by
  have h2 : ∀ c ∈ (S l).cps.toList, c < 0x110000 := fun c hc => by
    have := h c (by simpa [S] using hc)
    omega
  rw [dNe_str h2 h2]
  simp
theorem tru_ne {f k : FE} {l : List Nat} {σ : Hw.Env} (h : ∀ c ∈ l, c < 128) (hf : f σ st = .ok (.str (S l)) st) (hk : k σ st = .ok (.str (S l)) st) : fTru (fOp dNe f k) σ st = .ok false st := by
  simp only [fTru, op2 hf hk (ne_S h), R.bind]
theorem len_S {f : FE} {l : List Nat} {σ : Hw.Env} (hl : l.length ≤ 100000) (hf : f σ st = .ok (.str (S l)) st) : fCB dLen (fCons f fNil) σ st = .ok (.int (l.length : Nat)) st := by
  simp only [fCB, fCons, fNil, R.bind, hf, dLen, S_len, small_of hl, if_true, R.of]
theorem dNe_int (i j : Int) : dNe (.int i) (.int j) st = some (.bl (!(i == j)), st) := rfl
theorem or_f {f k : FT} {σ : Hw.Env} (hf : f σ st = .ok false st) (hk : k σ st = .ok false st) : fOr f k σ st = .ok false st := by
  simp only [fOr, hf, R.bind, Bool.false_eq_true, if_false, hk]
theorem sif_f {t : FT} {f : FS} {σ : Hw.Env} (ht : t σ st = .ok false st) : sIf t f sNil σ st = .nx σ st := by
  simp only [sIf, ht, R.thn, Bool.false_eq_true, if_false, sNil]
theorem seq_nx {f k : FS} {σ σ' : Hw.Env} {st' : Store} (h : f σ st = .nx σ' st') : sSeq f k σ st = k σ' st' := by
  simp only [sSeq, h, F.then]
theorem set_ok {i : Nat} {f : FE} {d : D} {σ : Hw.Env} (h : f σ st = .ok d st) : sSet i f σ st = .nx (σ.set i (some d)) st := by
  simp only [sSet, h, R.thn]
theorem for_ok {fi : FI} {T : Tg} {b : FS} {σ : Hw.Env} {xs : List D} (h : fi σ st = .ok xs st) : sFor fi T b σ st = loopF T b xs σ st := by
  simp only [sFor, h, R.thn]
theorem and_f {f k : FT} {σ : Hw.Env} (hf : f σ st = .ok false st) : fAnd f k σ st = .ok false st := by
  simp only [fAnd, hf, R.bind, Bool.false_eq_true, if_false]
theorem and_t {f k : FT} {σ : Hw.Env} {b : Bool} (hf : f σ st = .ok true st) (hk : k σ st = .ok b st) : fAnd f k σ st = .ok b st := by
  simp only [fAnd, hf, R.bind, if_true, hk]
theorem par_ok {i j : Nat} {f k : FE} {x y : D} {σ : Hw.Env} (hf : f σ st = .ok x st) (hk : k σ st = .ok y st) : sPar i j (fCons f (fCons k fNil)) σ st = .nx ((σ.set i (some x)).set j (some y)) st := by
  simp only [sPar, fCons, fNil, R.bind, R.thn, hf, hk]
theorem tru2 {d : D → D → Store → Option (D × Store)} {f k : FE} {x y : D} {b : Bool} {σ : Hw.Env} (hf : f σ st = .ok x st) (hk : k σ st = .ok y st) (hc : d x y st = some (.bl b, st)) : fTru (fOp d f k) σ st = .ok b st := by
  simp only [fTru, op2 hf hk hc, R.bind]
end Hw
/-! HwN: what is dead is wiped; blocks at whose end what they made is written out and forgotten; what is never reached. -/
namespace Hw
open PySem PySem.Spec PyProof.Rows L2
variable {g : G} {ρ ρ' ρ'' : Pl} {H H' H'' : Hp} {E : XK} {X : Cx}
/-! ### never reached -/
def fStk : FE := fun _ _ => .stk
def sStk : FS := fun _ _ => .stk
theorem se_stk {e : Expr} : SE g E X e fStk := .mk fun _ _ _ _ _ _ _ _ _ _ h => h.elim
theorem ss_stk {s : Stmt} : SS g E X s sStk := .mk fun _ _ _ _ _ _ _ _ _ _ h => h.elim
theorem sb_stk {s : List Stmt} : SB g E X s sStk := .mk fun _ _ _ _ _ _ _ _ _ _ h => h.elim
/-! ### wiping -/
theorem ER.wipeL {σ : Env} {σV : L2.St} (e : ER g ρ H σ σV) : ∀ vs : List Nat, ER g ρ H (wipeD σ vs) σV
  | [] => e
  | v :: vs => by
    have ih := ER.wipeL e vs
    refine ⟨by show ((wipeD σ vs).set v none).length = _; rw [List.length_set, ih.len], fun j d h => ?_⟩
    have h : ((wipeD σ vs).set v none)[j]? = some (some d) := h
    by_cases hj : v = j
    · subst hj
      by_cases hl : v < (wipeD σ vs).length
      · rw [List.getElem?_set_self hl] at h; cases h
      · rw [List.getElem?_eq_none (by rw [List.length_set]; omega)] at h; cases h
    · rw [List.getElem?_set_ne hj] at h
      exact ih.at_ j d h
def sWp (vs : List Nat) (f : FS) : FS := fun σ st => match f σ st with
  | .nx σ2 st2 => .nx (wipeD σ2 vs) st2
  | .ct σ2 st2 => .ct (wipeD σ2 vs) st2
  | .bk σ2 st2 => .bk (wipeD σ2 vs) st2
  | r => r
theorem OkS.wp {Z : Ends} {vs : List Nat} {f : FS} {σ : Env} {st : Store} (h : OkS g ρ H E Z (sWp vs f σ st)) : OkS g ρ H E Z (f σ st) := by
  unfold sWp at h
  cases e : f σ st with
  | nx σ2 st2 => rw [e] at h; exact fun σV H' ρ' l s er => h σV H' ρ' l s (er.wipeL vs)
  | ct σ2 st2 => rw [e] at h; exact fun σV H' ρ' l s er => h σV H' ρ' l s (er.wipeL vs)
  | bk σ2 st2 => rw [e] at h; exact fun σV H' ρ' l s er => h σV H' ρ' l s (er.wipeL vs)
  | rt d st2 => rw [e] at h; exact h
  | exc c st2 => rw [e] at h; exact h
  | stk => rw [e] at h; exact h
/-! ### a block's end -/
/-- the environments in which a statement ends agree with the first one but at the slots vs -/
def KpF (vs : List Nat) (σ : Env) : F → Prop
  | .nx σ2 _ => ∀ i, vs.contains i = false → σ2[i]? = σ[i]?
  | .ct σ2 _ => ∀ i, vs.contains i = false → σ2[i]? = σ[i]?
  | .bk σ2 _ => ∀ i, vs.contains i = false → σ2[i]? = σ[i]?
  | _ => True
def Kp (vs : List Nat) (f : FS) : Prop := ∀ σ st, KpF vs σ (f σ st)
def frzE (vs : List Nat) (n : Nat) (st : Store) : Nat → Env → Env
  | _, [] => []
  | i, o :: σ => (if vs.contains i then o.map (frzN n st 6) else o) :: frzE vs n st (i + 1) σ
def limE (vs : List Nat) (n : Nat) : Nat → Env → Bool
  | _, [] => true
  | i, some d :: σ => (if vs.contains i then D.lim n d else true) && limE vs n (i + 1) σ
  | i, none :: σ => limE vs n (i + 1) σ
def gcE (vs : List Nat) (st : Store) (σ2 : Env) (st2 : Store) (k : Env → Store → F) : F :=
  if okOld st.length st st2 && limE vs st.length 0 (frzE vs st.length st2 0 σ2) then k (frzE vs st.length st2 0 σ2) (st2.take st.length) else k σ2 st2
def sGc (vs : List Nat) (f : FS) : FS := fun σ st => match f σ st with
  | .nx σ2 st2 => gcE vs st σ2 st2 .nx
  | .ct σ2 st2 => gcE vs st σ2 st2 .ct
  | .bk σ2 st2 => gcE vs st σ2 st2 .bk
  | r => r
theorem limE_at {vs : List Nat} {n : Nat} : ∀ {σ : Env} {j i : Nat} {d : D}, limE vs n j σ = true → vs.contains (j + i) = true → σ[i]? = some (some d) → D.lim n d = true
  | [], j, i, d, _, _, h => by simp at h
  | some x :: σ, j, 0, d, l, c, h => by
    simp only [limE, Bool.and_eq_true] at l
    simp at h
    rw [← h]
    have l1 := l.1
    rw [Nat.add_zero] at c
    rw [if_pos c] at l1
    exact l1
  | some x :: σ, j, i + 1, d, l, c, h => by
    simp only [limE, Bool.and_eq_true] at l
    exact limE_at l.2 (by rw [show j + 1 + i = j + (i + 1) by omega]; exact c) (by simpa using h)
  | none :: σ, j, 0, d, l, c, h => by simp at h
  | none :: σ, j, i + 1, d, l, c, h => limE_at (σ := σ) (j := j + 1) l (by rw [show j + 1 + i = j + (i + 1) by omega]; exact c) (by simpa using h)
theorem frzE_len {vs : List Nat} {n : Nat} {st : Store} : ∀ {j : Nat} {σ : Env}, (frzE vs n st j σ).length = σ.length
  | _, [] => rfl
  | j, _ :: σ => by show _ + 1 = _ + 1; rw [frzE_len]
theorem frzE_at {vs : List Nat} {n : Nat} {st : Store} : ∀ {j : Nat} {σ : Env} {i : Nat}, (frzE vs n st j σ)[i]? = (σ[i]?).map fun o => if vs.contains (j + i) then o.map (frzN n st 6) else o
  | _, [], i => by simp [frzE]
  | j, o :: σ, 0 => by simp [frzE]
  | j, o :: σ, i + 1 => by
    show (frzE vs n st (j + 1) σ)[i]? = (σ[i]?).map _
    rw [frzE_at, show j + 1 + i = j + (i + 1) by omega]
theorem gcE_ok {vs : List Nat} {st st2 : Store} {σ σ2 : Env} {σV0 : L2.St} {k : Env → Store → F} {W : F → Prop} (er0 : ER g ρ H σ σV0) (kp : ∀ i, vs.contains i = false → σ2[i]? = σ[i]?) (sr : SR g ρ st H) (h : W (gcE vs st σ2 st2 k))
    (Y : L2.St → Hp → Prop) (q : ∀ σ3 st3 σV H' ρ', W (k σ3 st3) → Le ρ H ρ' H' → SR g ρ' st3 H' → ER g ρ' H' σ3 σV → Y σV H') : ∀ σV H' ρ', Le ρ H ρ' H' → SR g ρ' st2 H' → ER g ρ' H' σ2 σV → Y σV H' := by
  intro σV H' ρ' l s er
  unfold gcE at h
  by_cases hc : (okOld st.length st st2 && limE vs st.length 0 (frzE vs st.length st2 0 σ2)) = true
  · rw [if_pos hc] at h
    simp only [Bool.and_eq_true] at hc
    obtain ⟨a, b, c⟩ := cut_ok sr l s hc.1
    refine q _ _ σV H' ρ h b a ⟨by rw [frzE_len]; exact er.len, fun i d hi => ?_⟩
    have hi0 := hi
    rw [frzE_at, Nat.zero_add] at hi
    cases e1 : σ2[i]? with
    | none => rw [e1] at hi; cases hi
    | some o =>
      rw [e1] at hi
      cases o with
      | none => by_cases hv : vs.contains i = true <;> simp [hv] at hi
      | some d0 =>
        obtain ⟨v, h1, h2⟩ := er.at_ i d0 e1
        by_cases hv : vs.contains i = true
        · have hl := limE_at (j := 0) hc.2 (by rw [Nat.zero_add]; exact hv) hi0
          rw [Option.map_some, if_pos hv] at hi
          have hi : frzN st.length st2 6 d0 = d := by simpa using hi
          refine ⟨v, h1, ?_⟩
          rw [← hi] at hl ⊢
          exact c 6 d0 v h2 hl
        · rw [Option.map_some, if_neg hv] at hi
          have hi : d0 = d := by simpa using hi
          subst hi
          have hv : vs.contains i = false := by cases e : vs.contains i <;> simp_all
          rw [kp i hv] at e1
          obtain ⟨v0, _, h3⟩ := er0.at_ i d0 e1
          have hl := Rp.lim _ _ h3
          rw [sr.len] at hl
          refine ⟨v, h1, ?_⟩
          have hz := c 0 d0 v h2
          exact hz hl
  · rw [if_neg hc] at h
    exact q _ _ σV H' ρ' h l s er
theorem OkS.gc {vs : List Nat} {Z : Ends} {f : FS} {σ : Env} {σV0 : L2.St} {st : Store} (kp : Kp vs f) (er0 : ER g ρ H σ σV0) (sr : SR g ρ st H) (h : OkS g ρ H E Z (sGc vs f σ st)) : OkS g ρ H E Z (f σ st) := by
  unfold sGc at h
  have kp := kp σ st
  cases e : f σ st with
  | nx σ2 st2 =>
    rw [e] at h kp
    exact gcE_ok (W := OkS g ρ H E Z) er0 kp sr h Z.nx fun σ3 st3 σV H' ρ' hw l s er => hw σV H' ρ' l s er
  | ct σ2 st2 =>
    rw [e] at h kp
    exact gcE_ok (W := OkS g ρ H E Z) er0 kp sr h Z.ct fun σ3 st3 σV H' ρ' hw l s er => hw σV H' ρ' l s er
  | bk σ2 st2 =>
    rw [e] at h kp
    exact gcE_ok (W := OkS g ρ H E Z) er0 kp sr h Z.bk fun σ3 st3 σV H' ρ' hw l s er => hw σV H' ρ' l s er
  | rt d st2 => rw [e] at h; exact h
  | exc c st2 => rw [e] at h; exact h
  | stk => rw [e] at h; exact h
/-! ### which slots a statement leaves as they are -/
theorem kp_nil {vs} : Kp vs sNil := fun _ _ _ _ => rfl
theorem kp_brk {vs} : Kp vs sBrk := fun _ _ _ _ => rfl
theorem kp_cnt {vs} : Kp vs sCnt := fun _ _ _ _ => rfl
theorem kp_stk {vs} : Kp vs sStk := fun _ _ => trivial
theorem kp_raise {vs c} : Kp vs (sRaise c) := fun _ _ => trivial
theorem kp_retN {vs} : Kp vs sRetN := fun _ _ => trivial
theorem kp_thn {α : Type} {vs : List Nat} {σ : Env} {r : R α} {k : α → Store → F} (h : ∀ d st, KpF vs σ (k d st)) : KpF vs σ (r.thn k) := by
  cases r with
  | ok d st => exact h d st
  | exc c st => trivial
  | stk => trivial
theorem kp_ret {vs f} : Kp vs (sRet f) := fun σ st => kp_thn fun d st1 => trivial
theorem kp_drop {vs f} : Kp vs (sDrop f) := fun σ st => kp_thn fun d st1 _ _ => rfl
theorem set_ne {vs : List Nat} {i j : Nat} {σ : Env} {o : Option D} (h : vs.contains i = true) (n : vs.contains j = false) : (σ.set i o)[j]? = σ[j]? := by
  rw [List.getElem?_set_ne]
  intro e
  subst e
  rw [h] at n
  cases n
theorem kp_set {vs : List Nat} {i f} (h : vs.contains i = true) : Kp vs (sSet i f) := fun σ st => kp_thn fun d st1 j n => set_ne h n
theorem kp_par {vs : List Nat} {i j f} (h : vs.contains i = true) (h2 : vs.contains j = true) : Kp vs (sPar i j f) := fun σ st => kp_thn fun d st1 => by
  split
  · intro k n
    rw [set_ne h2 n, set_ne h n]
  · trivial
theorem gSets_ne {vs : List Nat} {k : Nat} (n : vs.contains k = false) : ∀ {is : List Nat} {ds : List D} {σ : Env}, is.all (vs.contains ·) = true → (gSets is ds σ)[k]? = σ[k]?
  | [], _, _, _ => rfl
  | _ :: _, [], _, _ => rfl
  | i :: is, d :: ds, σ, h => by
    rw [List.all_cons, Bool.and_eq_true] at h
    show (gSets is ds (σ.set i (some d)))[k]? = _
    rw [gSets_ne n h.2, set_ne h.1 n]
theorem tg_ne {vs : List Nat} {k : Nat} (n : vs.contains k = false) {T : Tg} {d : D} {σ σ' : Env} (h : T.ix.all (vs.contains ·) = true) (e : T.d d σ = some σ') : σ'[k]? = σ[k]? := by
  cases T with
  | nm i =>
    cases e
    simp only [Tg.ix, List.all_cons, List.all_nil, Bool.and_true] at h
    exact set_ne h n
  | tp is =>
    cases d with
    | tup ds =>
      simp only [Tg.d] at e
      split at e
      · cases e
        exact gSets_ne n h
      · cases e
    | _ => cases e
theorem kp_asg {vs : List Nat} {T f} (h : T.ix.all (vs.contains ·) = true) : Kp vs (sAsg T f) := fun σ st => kp_thn fun d st1 => by
  split
  · rename_i e
    exact fun k n => tg_ne n h e
  · trivial
theorem KpF.trans {vs : List Nat} {σ σ2 : Env} {r : F} (h : ∀ i, vs.contains i = false → σ2[i]? = σ[i]?) (q : KpF vs σ2 r) : KpF vs σ r := by
  cases r with
  | nx σ3 _ => exact fun i n => (q i n).trans (h i n)
  | ct σ3 _ => exact fun i n => (q i n).trans (h i n)
  | bk σ3 _ => exact fun i n => (q i n).trans (h i n)
  | _ => trivial
theorem kp_seq {vs f k} (h : Kp vs f) (q : Kp vs k) : Kp vs (sSeq f k) := fun σ st => by
  have h1 := h σ st
  unfold sSeq
  cases e : f σ st with
  | nx σ2 st2 => rw [e] at h1; exact KpF.trans h1 (q σ2 st2)
  | _ => rw [e] at h1; exact h1
theorem kp_if {vs t f k} (h : Kp vs f) (q : Kp vs k) : Kp vs (sIf t f k) := fun σ st => kp_thn fun b st1 => by
  cases b
  · exact q σ st1
  · exact h σ st1
theorem kp_wipe {us : List Nat} {k : Nat} (n : us.contains k = false) {σ : Env} : ∀ {vs : List Nat}, vs.all (us.contains ·) = true → (wipeD σ vs)[k]? = σ[k]?
  | [], _ => rfl
  | v :: vs, h => by
    rw [List.all_cons, Bool.and_eq_true] at h
    show ((wipeD σ vs).set v none)[k]? = _
    rw [set_ne h.1 n, kp_wipe n h.2]
theorem kp_wp {us vs : List Nat} {f} (h : vs.all (us.contains ·) = true) (q : Kp us f) : Kp us (sWp vs f) := fun σ st => by
  have q := q σ st
  unfold sWp
  cases e : f σ st with
  | nx σ2 st2 => rw [e] at q; exact fun k n => (kp_wipe n h).trans (q k n)
  | ct σ2 st2 => rw [e] at q; exact fun k n => (kp_wipe n h).trans (q k n)
  | bk σ2 st2 => rw [e] at q; exact fun k n => (kp_wipe n h).trans (q k n)
  | _ => trivial
theorem kp_frz {us vs : List Nat} {k n0 : Nat} {st : Store} {σ : Env} (n : us.contains k = false) (h : vs.all (us.contains ·) = true) : (frzE vs n0 st 0 σ)[k]? = σ[k]? := by
  have hv : vs.contains k = false := by
    cases e : vs.contains k with
    | false => rfl
    | true =>
      have := List.all_eq_true.mp h k (by simpa using e)
      rw [n] at this
      cases this
  rw [frzE_at, Nat.zero_add, hv]
  cases σ[k]? <;> rfl
theorem kp_gc {us vs : List Nat} {f} (h : vs.all (us.contains ·) = true) (q : Kp us f) : Kp us (sGc vs f) := fun σ st => by
  have q := q σ st
  unfold sGc gcE
  cases e : f σ st with
  | nx σ2 st2 => rw [e] at q; dsimp only; split; exact fun k n => (kp_frz n h).trans (q k n); exact q
  | ct σ2 st2 => rw [e] at q; dsimp only; split; exact fun k n => (kp_frz n h).trans (q k n); exact q
  | bk σ2 st2 => rw [e] at q; dsimp only; split; exact fun k n => (kp_frz n h).trans (q k n); exact q
  | _ => trivial
theorem kp_loop {vs : List Nat} {T : Tg} {b : FS} (hT : T.ix.all (vs.contains ·) = true) (hb : Kp vs b) : ∀ (xs : List D) (σ : Env) (st : Store), KpF vs σ (loopF T b xs σ st)
  | [], σ, st => fun _ _ => rfl
  | x :: xs, σ, st => by
    unfold loopF
    cases e : T.d x σ with
    | none => trivial
    | some σ1 =>
      dsimp only
      have h1 : ∀ i, vs.contains i = false → σ1[i]? = σ[i]? := fun i n => tg_ne n hT e
      have q := hb σ1 st
      cases e2 : b σ1 st with
      | nx σ2 st2 => rw [e2] at q; exact KpF.trans h1 (KpF.trans q (kp_loop hT hb xs σ2 st2))
      | ct σ2 st2 => rw [e2] at q; exact KpF.trans h1 (KpF.trans q (kp_loop hT hb xs σ2 st2))
      | bk σ2 st2 => rw [e2] at q; exact fun i n => (q i n).trans (h1 i n)
      | _ => trivial
theorem kp_for {vs : List Nat} {fi} {T : Tg} {b : FS} (hT : T.ix.all (vs.contains ·) = true) (hb : Kp vs b) : Kp vs (sFor fi T b) := fun σ st => kp_thn fun xs st1 => kp_loop hT hb xs σ st1
theorem kp_loopW {vs : List Nat} {t : FT} {b : FS} (hb : Kp vs b) : ∀ (n : Nat) (σ : Env) (st : Store), KpF vs σ (loopW t b n σ st)
  | 0, _, _ => trivial
  | n + 1, σ, st => kp_thn fun c st1 => by
    cases c with
    | false => exact fun _ _ => rfl
    | true =>
      have q := hb σ st1
      try simp only [if_true, ↓reduceIte]
      cases e2 : b σ st1 with
      | nx σ2 st2 => rw [e2] at q; exact KpF.trans q (kp_loopW hb n σ2 st2)
      | ct σ2 st2 => rw [e2] at q; exact KpF.trans q (kp_loopW hb n σ2 st2)
      | bk σ2 st2 => rw [e2] at q; exact q
      | _ => trivial
theorem kp_while {vs : List Nat} {n : Nat} {t : FT} {b : FS} (hb : Kp vs b) : Kp vs (sWhile n t b) := fun σ st => kp_loopW hb n σ st
section
variable {s : Stmt} {ss rest : List Stmt} {f k : FS} {vs : List Nat}
theorem sb_wp (h : SB g E X ss f) : SB g E X ss (sWp vs f) := .mk fun hK tk σ st σV H ρ Z er sr q => h hK tk σ st σV H ρ Z er sr q.wp
theorem sb_gc (kp : Kp vs f) (h : SB g E X ss f) : SB g E X ss (sGc vs f) := .mk fun hK tk σ st σV H ρ Z er sr q => h hK tk σ st σV H ρ Z er sr (OkS.gc kp er sr q)
theorem ss_wp (h : SS g E X s f) : SS g E X s (sWp vs f) := .mk fun hK tk σ st σV H ρ Z er sr q => h hK tk σ st σV H ρ Z er sr q.wp
theorem ss_gc (kp : Kp vs f) (h : SS g E X s f) : SS g E X s (sGc vs f) := .mk fun hK tk σ st σV H ρ Z er sr q => h hK tk σ st σV H ρ Z er sr (OkS.gc kp er sr q)
/-- ss is some statements, done as f, then rest -/
structure SPre (g : G) (E : XK) (X : Cx) (ss rest : List Stmt) (f : FS) : Prop where
  run : X.K = g.K → Tk X E → ∀ (σ : Env) (st : Store) (σV : L2.St) (H : Hp) (ρ : Pl) (Z : Ends), ER g ρ H σ σV → SR g ρ st H → OkS g ρ H E { Z with nx := mxB X rest Z } (f σ st) → mxB X ss Z σV H
theorem sp_one (h : SS g E X s f) : SPre g E X (s :: rest) rest f := .mk fun hK tk σ st σV H ρ Z er sr q => mb_of (pss_cons (ps_mx (st := s)) (pss_mx (sts := rest))) (h.run hK tk σ st σV H ρ { Z with nx := mxB X rest Z } er sr q)
theorem sp_cons (h1 : SS g E X s f) (h2 : SPre g E X ss rest k) : SPre g E X (s :: ss) rest (sSeq f k) := .mk fun hK tk σ st σV H ρ Z er sr h =>
  mb_of (pss_cons (ps_mx (st := s)) (pss_mx (sts := ss))) (h1 hK tk σ st σV H ρ { Z with nx := mxB X ss Z } er sr (by
    unfold sSeq at h
    cases e : f σ st with
    | nx σ' st' =>
      rw [e] at h
      exact fun σV' H' ρ' l s' er' => h2.run hK tk σ' st' σV' H' ρ' Z er' s' (OkS.mono l h)
    | rt d st' => rw [e] at h; exact h
    | bk σ' st' => rw [e] at h; exact h
    | ct σ' st' => rw [e] at h; exact h
    | exc c st' => rw [e] at h; exact h
    | stk => rw [e] at h; exact h))
theorem sp_gc (kp : Kp vs f) (h : SPre g E X ss rest f) : SPre g E X ss rest (sGc vs f) := .mk fun hK tk σ st σV H ρ Z er sr q => h.run hK tk σ st σV H ρ Z er sr (OkS.gc kp er sr q)
theorem sp_wp (h : SPre g E X ss rest f) : SPre g E X ss rest (sWp vs f) := .mk fun hK tk σ st σV H ρ Z er sr q => h.run hK tk σ st σV H ρ Z er sr q.wp
theorem sb_pre (h1 : SPre g E X ss rest f) (h2 : SB g E X rest k) : SB g E X ss (sSeq f k) := .mk fun hK tk σ st σV H ρ Z er sr h => h1.run hK tk σ st σV H ρ Z er sr (by
    unfold sSeq at h
    cases e : f σ st with
    | nx σ' st' =>
      rw [e] at h
      exact fun σV' H' ρ' l s' er' => h2 hK tk σ' st' σV' H' ρ' Z er' s' (OkS.mono l h)
    | rt d st' => rw [e] at h; exact h
    | bk σ' st' => rw [e] at h; exact h
    | ct σ' st' => rw [e] at h; exact h
    | exc c st' => rw [e] at h; exact h
    | stk => rw [e] at h; exact h)
end
end Hw
/-! HwO: chained comparisons; dicts. -/
namespace Hw
open PySem PySem.Spec PyProof.Rows L2
variable {g : G} {ρ ρ' ρ'' : Pl} {H H' H'' : Hp} {E : XK} {X : Cx}
/-! ### a op1 b op2 c -/
def fChain (d d' : D → D → Store → Option (D × Store)) (f k m : FE) : FE := fun σ st => (f σ st).bind fun x st1 => (k σ st1).bind fun y st2 => match d x y st2 with
  | some (.bl true, st3) => (m σ st3).bind fun z st4 => R.of (d' y z st4)
  | some (.bl false, st3) => .ok (.bl false) st3
  | _ => .stk
theorem chain_of {a b c : Expr} {f k m : FE} {d d' : D → D → Store → Option (D × Store)} {r r' : R2} {σ : Env} {st : Store} {σV : L2.St} {Q : VK} (hK : X.K = g.K) (tk : Tk X E) (ha : SE g E X a f) (hb : SE g E X b k) (hc : SE g E X c m) (hd : SOp g r d) (hd' : SOp g r' d') (er : ER g ρ H σ σV) (sr : SR g ρ st H)
    (h : Ok1 g ρ H E Q (fChain d d' f k m σ st)) : tChain r r' (mxE X a) (mxE X b) (mxE X c) σV H Q :=
  ha hK tk σ st σV H ρ _ er sr (Ok1.bind h fun x st1 v H1 ρ1 l1 s1 r1 h1 => hb hK tk σ st1 σV H1 ρ1 _ (er.mono l1) s1 (Ok1.bind h1 fun y st2 w H2 ρ2 l2 s2 r2 h2 => by
    cases e : d x y st2 with
    | none => rw [e] at h2; exact h2.elim
    | some p =>
      obtain ⟨z, st3⟩ := p
      rw [e] at h2
      cases z with
      | bl t =>
        refine hd x y (.bl t) st2 st3 ρ2 H2 v w _ s2 (r1.mono l2) r2 e fun u H3 ρ3 l3 s3 r3 => ⟨t, r3, ?_⟩
        cases t with
        | false =>
          rw [if_neg Bool.false_ne_true]
          exact h2 _ H3 ρ3 l3 s3 rfl
        | true =>
          rw [if_pos rfl]
          have h2 : Ok1 g ρ2 H2 E Q ((m σ st3).bind fun z st4 => R.of (d' y z st4)) := h2
          refine hc hK tk σ st3 σV H3 ρ3 _ (((er.mono l1).mono l2).mono l3) s3 (Ok1.bind (Ok1.mono l3 h2) fun z st4 u4 H4 ρ4 l4 s4 r4 h4 => ?_)
          obtain ⟨z', st', e', q⟩ := h4.of
          exact hd' y z z' st4 st' ρ4 H4 w u4 Q s4 ((r2.mono l3).mono l4) r4 e' q
      | _ => exact h2.elim))
theorem se_chain {a b c : Expr} {f k m : FE} {op op' : CmpOp} {pos : Pos} {d d' : D → D → Store → Option (D × Store)} {r r' : R2} (ho : OpR X (compareOp op) r) (hd : SOp g r d) (ho' : OpR X (compareOp op') r') (hd' : SOp g r' d') (ha : SE g E X a f) (hb : SE g E X b k) (hc : SE g E X c m)
    (hm : lastMarks [op, op'] [b, c] = false := by with_unfolding_all rfl) : SE g E X (.Compare a [op, op'] [b, c] pos) (fChain d d' f k m) :=
  .mk fun hK tk σ st σV H ρ Q er sr h => mx_of (pe_chain ho ho' (pe_mx (e := a)) (pe_mx (e := b)) (pe_mx (e := c)) hm) (chain_of hK tk ha hb hc hd hd' er sr h)
theorem st_chain {a b c : Expr} {f k m : FE} {op op' : CmpOp} {pos : Pos} {d d' : D → D → Store → Option (D × Store)} {r r' : R2} (ho : OpR X (compareOp op) r) (hd : SOp g r d) (ho' : OpR X (compareOp op') r') (hd' : SOp g r' d') (ha : SE g E X a f) (hb : SE g E X b k) (hc : SE g E X c m)
    (hm : lastMarks [op, op'] [b, c] = false := by with_unfolding_all rfl) : ST g E X (.Compare a [op, op'] [b, c] pos) (fTru (fChain d d' f k m)) :=
  .mk fun hK tk σ st σV H ρ Q er sr h => mt_of (pt_chain ho ho' (pe_mx (e := a)) (pe_mx (e := b)) (pe_mx (e := c)) hm) (chain_of hK tk ha hb hc hd hd' er sr (OkT.bind' h fun x st1 v H1 ρ1 l1 s1 r1 h1 => by
    cases x with
    | bl b => exact ⟨b, r1, h1 H1 ρ1 (Le.refl _ _) s1⟩
    | _ => exact h1.elim))

/-! ### dicts: keys, what is at a key -/
def keyD : D → Option Key
  | .int i => some (.inl i)
  | .str s => some (.inr s)
  | _ => none
theorem keyD_ok {d : D} {k : Key} {v : V} (h : keyD d = some k) (r : Rp g ρ H d v) : v = kV k := by
  cases d with
  | int i => cases h; exact r
  | str i => cases h; exact r
  | _ => cases h
def valD : List Key → List D → Key → Option D
  | k :: ks, x :: xs, j => if k = j then some x else valD ks xs j
  | _, _, _ => none
theorem valD_ok : ∀ {kvs : List (Key × V)} {xs : List D} (j : Key), Rps g ρ H xs (kvs.map (·.2)) → match valD (kvs.map (·.1)) xs j with
    | some d => ∃ v, valV kvs j = some v ∧ Rp g ρ H d v
    | none => valV kvs j = none
  | [], xs, j, r => by simp [valD, valV_nil]
  | (k, v) :: kvs, [], j, r => by
    have e : v :: kvs.map (·.2) = [] := r
    cases e
  | (k, v) :: kvs, x :: xs, j, r => by
    obtain ⟨w, t, e, h1, h2⟩ := r
    have e : v :: kvs.map (·.2) = w :: t := e
    injection e with e1 e2
    subst e1 e2
    show match (if k = j then some x else valD (kvs.map (·.1)) xs j) with
      | some d => ∃ v', valV ((k, v) :: kvs) j = some v' ∧ Rp g ρ H d v'
      | none => valV ((k, v) :: kvs) j = none
    by_cases hk : k = j
    · rw [if_pos hk, valV_pos (p := (k, v)) hk]
      exact ⟨v, rfl, h1⟩
    · rw [if_neg hk, valV_neg (p := (k, v)) hk]
      exact valD_ok j h2
/-- what a dict holds -/
def dicOf (st : Store) : D → Option (List Key × List D)
  | .dic ks xs => some (ks, xs)
  | .loc n => match st[n]? with
    | some (.dic ks xs) => some (ks, xs)
    | _ => none
  | _ => none
theorem dicOf_ok {st : Store} (sr : SR g ρ st H) {d : D} {v : V} {ks : List Key} {xs : List D} (r : Rp g ρ H d v) (h : dicOf st d = some (ks, xs)) : ∃ a kvs, v = .ref a ∧ Rd H a (.dK kvs) ∧ kvs.map (·.1) = ks ∧ Rps g ρ H xs (kvs.map (·.2)) := by
  cases d with
  | dic ls ys =>
    cases h
    obtain ⟨a, kvs, e, n, h1, h2, h3⟩ := r
    exact ⟨a, kvs, e, h1, h2, h3⟩
  | loc n =>
    obtain ⟨a, e, hn⟩ := r
    simp only [dicOf] at h
    cases hc : st[n]? with
    | none => rw [hc] at h; cases h
    | some c =>
      rw [hc] at h
      cases c with
      | dic ls ys =>
        cases h
        obtain ⟨a', e', kvs, q1, q2, q3⟩ := sr.cell n _ hc
        rw [hn] at e'
        cases e'
        exact ⟨a, kvs, e, .inl q1, q2, q3⟩
      | lst ys => cases h
      | ins c fs ys => cases h
  | _ => cases h
theorem dget_ok {st : Store} (sr : SR g ρ st H) {d y : D} {v w : V} {ks : List Key} {xs : List D} {j : Key} (r : Rp g ρ H d v) (r2 : Rp g ρ H y w) (h : dicOf st d = some (ks, xs)) (hk : keyD y = some j) : ∃ a o, v = .ref a ∧ DGet H a w o ∧ (match valD ks xs j with
    | some d => ∃ u, o = some u ∧ Rp g ρ H d u
    | none => o = none) := by
  obtain ⟨a, kvs, e, h1, h2, h3⟩ := dicOf_ok sr r h
  refine ⟨a, valV kvs j, e, .inl ⟨kvs, j, h1, keyD_ok hk r2, rfl⟩, ?_⟩
  subst h2
  exact valD_ok j h3

/-! ### k in d, d[k] -/
def rInDi : R2 := fun x y H Q => ∃ a o, y = .ref a ∧ DGet H a x o ∧ Q (.bl o.isSome) H
def rNotInDi : R2 := fun x y H Q => ∃ a o, y = .ref a ∧ DGet H a x o ∧ Q (.bl (!o.isSome)) H
theorem op_inDi (hu : X.A.units + 65 < cLine) : OpR X (compareOp .In) rInDi := by
  intro pins s σ H x y v u Q I rx ry h
  obtain ⟨a, o, e, gt, q⟩ := h
  subst e
  obtain rfl : u = Value.ref a := ry
  exact d_in (by omega) I gt rx fun s' I' => ⟨.bl o.isSome, H, I', rfl, q⟩
theorem op_notInDi (hu : X.A.units + 65 < cLine) : OpR X (compareOp .NotIn) rNotInDi := by
  intro pins s σ H x y v u Q I rx ry h
  obtain ⟨a, o, e, gt, q⟩ := h
  subst e
  obtain rfl : u = Value.ref a := ry
  exact d_notIn (by omega) I gt rx fun s' I' => ⟨.bl (!o.isSome), H, I', rfl, q⟩
def hasD (x y : D) (st : Store) : Option Bool := (dicOf st y).bind fun p => (keyD x).map fun j => (valD p.1 p.2 j).isSome
def inDD (x y : D) (st : Store) : Option Bool := match dicOf st y with
  | some p => (keyD x).map fun j => (valD p.1 p.2 j).isSome
  | none => inD x y st
def dIn2 (x y : D) (st : Store) : Option (D × Store) := (inDD x y st).map fun b => (.bl b, st)
def dNotIn2 (x y : D) (st : Store) : Option (D × Store) := (inDD x y st).map fun b => (.bl (!b), st)
theorem sop_in2 (hK : X.K = g.K) : SOp g (fun x y H Q => rInAll X.K x y H Q ∨ rInDi x y H Q) dIn2 := by
  intro x y z st st' ρ H v w Q sr r1 r2 h q
  simp only [dIn2, Option.map_eq_some_iff] at h
  obtain ⟨b, h1, h2⟩ := h
  unfold inDD at h1
  cases hd : dicOf st y with
  | none =>
    rw [hd] at h1
    exact .inl (sop_in hK x y z st st' ρ H v w Q sr r1 r2 (by simp only [dIn, h1, Option.map_some]; exact congrArg some h2) q)
  | some p =>
    rw [hd] at h1
    cases h2
    simp only [Option.map_eq_some_iff] at h1
    obtain ⟨j, h3, h4⟩ := h1
    obtain ⟨a, o, e, gt, z⟩ := dget_ok sr r2 r1 hd h3
    refine .inr ⟨a, o, e, gt, ?_⟩
    have : o.isSome = b := by
      rw [← h4]
      cases hv : valD p.1 p.2 j with
      | none => rw [hv] at z; rw [z] <;> rfl
      | some d => rw [hv] at z; obtain ⟨u, e, _⟩ := z; rw [e] <;> rfl
    rw [this]
    exact q _ H ρ (Le.refl _ _) sr rfl
theorem sop_notIn2 (hK : X.K = g.K) : SOp g (fun x y H Q => rNotInAll X.K x y H Q ∨ rNotInDi x y H Q) dNotIn2 := by
  intro x y z st st' ρ H v w Q sr r1 r2 h q
  simp only [dNotIn2, Option.map_eq_some_iff] at h
  obtain ⟨b, h1, h2⟩ := h
  unfold inDD at h1
  cases hd : dicOf st y with
  | none =>
    rw [hd] at h1
    exact .inl (sop_notIn hK x y z st st' ρ H v w Q sr r1 r2 (by simp only [dNotIn, h1, Option.map_some]; exact congrArg some h2) q)
  | some p =>
    rw [hd] at h1
    cases h2
    simp only [Option.map_eq_some_iff] at h1
    obtain ⟨j, h3, h4⟩ := h1
    obtain ⟨a, o, e, gt, z⟩ := dget_ok sr r2 r1 hd h3
    refine .inr ⟨a, o, e, gt, ?_⟩
    have : o.isSome = b := by
      rw [← h4]
      cases hv : valD p.1 p.2 j with
      | none => rw [hv] at z; rw [z] <;> rfl
      | some d => rw [hv] at z; obtain ⟨u, e, _⟩ := z; rw [e] <;> rfl
    rw [this]
    exact q _ H ρ (Le.refl _ _) sr rfl
section
variable {a b : Expr} {f k : FE} {pos : Pos}
theorem se_in2 (hu : X.A.units + 65 < cLine) (ha : SE g E X a f) (hb : SE g E X b k) (hm : behindInMarks .In b = false := by rfl) : SE g E X (.Compare a [.In] [b] pos) (fOp dIn2 f k) := .mk fun hK => se_cmp ((op_inAll hu).or (op_inDi hu)) (sop_in2 hK) ha hb hm hK
theorem st_in2 (hu : X.A.units + 65 < cLine) (ha : SE g E X a f) (hb : SE g E X b k) (hm : behindInMarks .In b = false := by rfl) : ST g E X (.Compare a [.In] [b] pos) (fTru (fOp dIn2 f k)) := .mk fun hK => st_cmp ((op_inAll hu).or (op_inDi hu)) (sop_in2 hK) ha hb hm hK
theorem se_notIn2 (hu : X.A.units + 65 < cLine) (ha : SE g E X a f) (hb : SE g E X b k) (hm : behindInMarks .NotIn b = false := by rfl) : SE g E X (.Compare a [.NotIn] [b] pos) (fOp dNotIn2 f k) := .mk fun hK => se_cmp ((op_notInAll hu).or (op_notInDi hu)) (sop_notIn2 hK) ha hb hm hK
theorem st_notIn2 (hu : X.A.units + 65 < cLine) (ha : SE g E X a f) (hb : SE g E X b k) (hm : behindInMarks .NotIn b = false := by rfl) : ST g E X (.Compare a [.NotIn] [b] pos) (fTru (fOp dNotIn2 f k)) := .mk fun hK => st_cmp ((op_notInAll hu).or (op_notInDi hu)) (sop_notIn2 hK) ha hb hm hK
end
/-- d[k] of a dict -/
def dAt (x y : D) (st : Store) : Option (D × Store) := (dicOf st x).bind fun p => (keyD y).bind fun j => (valD p.1 p.2 j).map fun d => (d, st)
theorem se_dat {a b : Expr} {f k : FE} {pos : Pos} (hu : X.A.units + 65 < cLine) (ha : SE g E X a f) (hb : SE g E X b k) (hs : NoSl b := by intro _ _; rfl) : SE g E X (.Subscript a b pos) (fOp dAt f k) := .mk fun hK tk σ st σV H ρ Q er sr h =>
  mx_of (pe_dget (by omega) (pe_mx (e := a)) (pe_mx (e := b)) hs) (bin_of (d := dAt) (r := fun x y H Q => ∃ a v, x = .ref a ∧ DGet H a y (some v) ∧ Q v H) hK tk ha hb (fun x y z st st' ρ H v w Q sr r1 r2 h q => by
    simp only [dAt, Option.bind_eq_some_iff, Option.map_eq_some_iff] at h
    obtain ⟨p, h1, j, h2, d, h3, h4⟩ := h
    cases h4
    obtain ⟨a, o, e, gt, z⟩ := dget_ok sr r1 r2 h1 h2
    rw [h3] at z
    obtain ⟨u, eu, ru⟩ := z
    subst eu
    exact ⟨a, u, e, gt, q u H ρ (Le.refl _ _) sr ru⟩) er sr h)
/-! ### a live dict: d[k] = v -/
def putD (ks : List Key) (xs : List D) (j : Key) (v : D) : List Key × List D :=
  if ks.any (fun k => decide (k = j)) then (ks, List.zipWith (fun k x => if k = j then v else x) ks xs) else (ks ++ [j], xs ++ [v])
theorem putD_ok {kvs : List (Key × V)} {xs : List D} {j : Key} {d : D} {v : V} (r : Rps g ρ H xs (kvs.map (·.2))) (rd : Rp g ρ H d v) : (putK kvs j v).map (·.1) = (putD (kvs.map (·.1)) xs j d).1 ∧ Rps g ρ H (putD (kvs.map (·.1)) xs j d).2 ((putK kvs j v).map (·.2)) := by
  have ea : ((kvs.map (·.1)).any fun k => decide (k = j)) = kvs.any fun kv => decide (kv.1 = j) := by rw [List.any_map] <;> rfl
  unfold putD putK
  rw [ea]
  by_cases hc : (kvs.any fun kv => decide (kv.1 = j)) = true
  · rw [if_pos hc, if_pos hc]
    clear hc ea
    induction kvs generalizing xs with
    | nil =>
      refine ⟨rfl, ?_⟩
      cases xs with
      | nil => exact rfl
      | cons x xs =>
        obtain ⟨w, t, e, _⟩ := r
        cases e
    | cons p kvs ih =>
      cases xs with
      | nil =>
        have e : p.2 :: kvs.map (·.2) = [] := r
        cases e
      | cons x xs =>
        obtain ⟨w, t, e, h1, h2⟩ := r
        have e : p.2 :: kvs.map (·.2) = w :: t := e
        injection e with e1 e2
        subst e1 e2
        obtain ⟨i1, i2⟩ := ih h2
        refine ⟨?_, ?_⟩
        · rw [List.map_cons, List.map_cons, i1]
          by_cases hk : p.1 = j
          · simp [hk]
          · simp [hk]
        · by_cases hk : p.1 = j
          · refine ⟨v, _, ?_, ?_, i2⟩
            · simp [hk]
            · simp only [hk, if_true]; exact rd
          · refine ⟨p.2, _, ?_, ?_, i2⟩
            · simp [hk]
            · simp only [hk, if_false]; exact h1
  · rw [if_neg hc, if_neg hc]
    refine ⟨by simp, ?_⟩
    rw [List.map_append]
    exact r.append (Rps.one rd)
theorem dK_tbl {kvs : List (Key × V)} (ps : Array Value) : HO.dK kvs ≠ .tbl ps := fun z => by cases z
theorem dK_code {kvs : List (Key × V)} (c : Addr) (q : Str) : HO.dK kvs ≠ LamX.CodeO c q := fun z => by unfold LamX.CodeO at z; cases z
theorem cell_dic {st : Store} (sr : SR g ρ st H) {n : Nat} {ks : List Key} {ys : List D} {v : V} (r : Rp g ρ H (.loc n) v) (h : st[n]? = some (.dic ks ys)) : ∃ a kvs, v = .ref a ∧ ρ.lk[n]? = some a ∧ H a = some (.dK kvs) ∧ kvs.map (·.1) = ks ∧ Rps g ρ H ys (kvs.map (·.2)) := by
  obtain ⟨a, e, hn⟩ := r
  obtain ⟨a', e', kvs, q1, q2, q3⟩ := sr.cell n _ h
  rw [hn] at e'
  cases e'
  exact ⟨a, kvs, e, hn, q1, q2, q3⟩
theorem SR.setDic {st : Store} (sr : SR g ρ st H) {n : Nat} {a : Addr} {kvs0 kvs : List (Key × V)} {ds : List D} (hn : ρ.lk[n]? = some a) (ha : H a = some (.dK kvs0)) (r : Rps g ρ H ds (kvs.map (·.2))) : SR g ρ (st.set n (.dic (kvs.map (·.1)) ds)) (upd H a (.dK kvs)) ∧ Le ρ H ρ (upd H a (.dK kvs)) := by
  have l := sr.leWrite (o := .dK kvs) dK_tbl (List.mem_of_getElem? hn)
  exact ⟨sr.write dK_tbl hn ha dK_tbl dK_code ⟨kvs, upd_same, rfl, r.mono l⟩, l⟩
/-- d[k] = v -/
def sDPutE (fd fk fv : FE) : FS := fun σ st => (fv σ st).thn fun v st1 => (fd σ st1).thn fun x st2 => (fk σ st2).thn fun y st3 => match x, keyD y with
  | .loc n, some j => (match st3[n]? with
    | some (.dic ks xs) => if small ks.length then .nx σ (st3.set n (.dic (putD ks xs j v).1 (putD ks xs j v).2)) else .stk
    | _ => .stk)
  | _, _ => .stk
theorem ss_dput {o i value : Expr} {pos pos' : Pos} {fd fk fv : FE} (hu : X.A.units + 65 < cLine) (ho : SE g E X o fd) (hi : SE g E X i fk) (hv : SE g E X value fv) (hs : swapsWith value (some (.Subscript o i pos')) pos.line X.env = pure false := by rfl) :
    SS g E X (.Assign [.Subscript o i pos'] value pos) (sDPutE fd fk fv) := .mk fun hK tk σ st σV H ρ Z er sr h =>
  ms_of (ps_dput (by omega) (pe_mx (e := o)) (pe_mx (e := i)) (pe_mx (e := value)) hs) (hv hK tk σ st σV H ρ _ er sr (OkS.thn h fun v st1 v1 H1 ρ1 l1 s1 r1 h1 => ho hK tk σ st1 σV H1 ρ1 _ (er.mono l1) s1 (OkS.thn h1 fun x st2 v2 H2 ρ2 l2 s2 r2 h2 => hi hK tk σ st2 σV H2 ρ2 _ ((er.mono l1).mono l2) s2 (OkS.thn h2 fun y st3 v3 H3 ρ3 l3 s3 r3 h3 => by
    cases x with
    | loc n =>
      cases hk : keyD y with
      | none => simp only [hk] at h3; exact h3.elim
      | some j =>
        simp only [hk] at h3
        cases hc : st3[n]? with
        | none => rw [hc] at h3; exact h3.elim
        | some c =>
          rw [hc] at h3
          cases c with
          | dic ks xs =>
            have h3 : OkS g ρ3 H3 E Z (if small ks.length = true then F.nx σ (st3.set n (.dic (putD ks xs j v).1 (putD ks xs j v).2)) else .stk) := h3
            by_cases hz : small ks.length = true
            · rw [if_pos hz] at h3
              obtain ⟨a, kvs, e, hn, ha, e2, rs⟩ := cell_dic s3 (r2.mono l3) hc
              subst e2
              obtain ⟨p1, p2⟩ := putD_ok (j := j) rs ((r1.mono l2).mono l3)
              obtain ⟨s4, l4⟩ := s3.setDic (kvs := putK kvs j v1) hn ha p2
              rw [p1] at s4
              refine ⟨a, _, e, .inl ⟨kvs, j, ha, keyD_ok hk r3, ?_, rfl⟩, h3 σV _ ρ3 l4 s4 ((((er.mono l1).mono l2).mono l3).mono l4)⟩
              have := small_lt hz
              rw [List.length_map] at this
              exact this
            · rw [if_neg hz] at h3; exact h3.elim
          | lst ys => exact h3.elim
          | ins c fs ys => exact h3.elim
    | _ => exact h3.elim))))
/-! ### {} -/
def fDNew : FE := fun _ st => .ok (.dic [] []) st
def fDNewM : FE := fun _ st => .ok (.loc st.length) (st ++ [.dic [] []])
theorem se_dnew {pos : Pos} : SE g E X (.Dict [] [] pos) fDNew := .mk fun hK tk σ st σV H ρ Q er sr h => mx_of pe_dnewK fun p hp => h _ _ ρ (sr.leLay hp) (sr.lay hp) ⟨p, [], rfl, sr.out hp, .inl upd_same, rfl, rfl⟩
theorem se_dnewM {pos : Pos} : SE g E X (.Dict [] [] pos) fDNewM := .mk fun hK tk σ st σV H ρ Q er sr h => mx_of pe_dnewK fun p hp => h _ _ (ρ.push p) (sr.leNew hp) (sr.new hp ⟨[], upd_same, rfl, rfl⟩) (Rp.of_loc sr)
end Hw
/-! HwQ: dicts made; len, sorted, set, zip; more methods. -/
namespace Hw
open PySem PySem.Spec PyProof.Rows L2
variable {g : G} {ρ ρ' ρ'' : Pl} {H H' H'' : Hp} {E : XK} {X : Cx}
/-! ### many pairs -/
def pairD : D → Option (Key × D)
  | .tup [k, v] => (keyD k).map fun j => (j, v)
  | _ => none
def pairsD : List D → Option (List (Key × D))
  | [] => some []
  | d :: r => (pairD d).bind fun p => (pairsD r).map (p :: ·)
theorem pairsD_ok (hK : X.K = g.K) : ∀ {xs : List D} {vs : List V} {kds : List (Key × D)}, Rps g ρ H xs vs → pairsD xs = some kds →
    ∃ (ps : List Addr) (kvs : List (Key × V)), vs = ps.map V.ref ∧ Paired (fun p kv => SqT X.K H p [kV kv.1, kv.2]) ps kvs ∧ kvs.map (·.1) = kds.map (·.1) ∧ Rps g ρ H (kds.map (·.2)) (kvs.map (·.2))
  | [], vs, kds, r, h => by
    cases h
    have r : vs = [] := r
    subst r
    exact ⟨[], [], rfl, .nil, rfl, rfl⟩
  | d :: xs, vs, kds, r, h => by
    obtain ⟨v, t, e, r1, r2⟩ := r
    subst e
    simp only [pairsD, Option.bind_eq_some_iff, Option.map_eq_some_iff] at h
    obtain ⟨p, h1, q, h2, h3⟩ := h
    subst h3
    unfold pairD at h1
    split at h1
    · rename_i k x
      rw [Option.map_eq_some_iff] at h1
      obtain ⟨j, h4, h5⟩ := h1
      subst h5
      obtain ⟨ps, kvs, e1, e2, e3, e4⟩ := pairsD_ok hK r2 h2
      obtain ⟨a, ws, e5, t1, s1⟩ := tup_ok hK r1
      obtain ⟨w1, w2, e6, q1, q2⟩ := s1.un2
      subst e5 e6
      exact ⟨a :: ps, (j, w2) :: kvs, by rw [e1] <;> rfl, .cons (by rw [← keyD_ok h4 q1]; exact t1) e2, by simp [e3], ⟨w2, _, rfl, q2, e4⟩⟩
    · cases h1
def mergeD : List (Key × D) → List Key × List D → List Key × List D
  | [], acc => acc
  | p :: r, acc => mergeD r (putD acc.1 acc.2 p.1 p.2)
theorem mergeD_ok : ∀ {more : List (Key × V)} {kds : List (Key × D)} {kvs : List (Key × V)} {xs : List D}, Rps g ρ H xs (kvs.map (·.2)) → more.map (·.1) = kds.map (·.1) → Rps g ρ H (kds.map (·.2)) (more.map (·.2)) →
    (mergeK kvs more).map (·.1) = (mergeD kds (kvs.map (·.1), xs)).1 ∧ Rps g ρ H (mergeD kds (kvs.map (·.1), xs)).2 ((mergeK kvs more).map (·.2))
  | [], [], kvs, xs, r, _, _ => ⟨rfl, r⟩
  | [], _ :: _, kvs, xs, r, e, _ => by cases e
  | _ :: _, [], kvs, xs, r, e, _ => by cases e
  | q :: more, p :: kds, kvs, xs, r, e, rs => by
    simp only [List.map_cons, List.cons.injEq] at e
    obtain ⟨v, t, e1, r1, r2⟩ := rs
    have e1 : q.2 :: more.map (·.2) = v :: t := e1
    injection e1 with e3 e4
    subst e3 e4
    obtain ⟨p1, p2⟩ := putD_ok (j := q.1) r r1
    have ih := mergeD_ok (kvs := putK kvs q.1 q.2) p2 e.2 r2
    rw [p1] at ih
    have e5 : mergeD (p :: kds) (kvs.map (·.1), xs) = mergeD kds ((putD (kvs.map (·.1)) xs q.1 p.2).1, (putD (kvs.map (·.1)) xs q.1 p.2).2) := by
      show mergeD kds (putD (kvs.map (·.1)) xs p.1 p.2) = _
      rw [← e.1]
    rw [e5]
    exact ih
/-! ### dict(..) -/
def dictOfD (d : D) (st : Store) : Option (List Key × List D) := match dicOf st d with
  | some p => some p
  | none => (listOf st d).bind fun xs => (pairsD xs).map fun kds => mergeD kds ([], [])
def dDictC (xs : List D) (st : Store) : Option (D × Store) := match xs with
  | [d] => (dictOfD d st).map fun p => (.dic p.1 p.2, st)
  | _ => none
def dDictCM (xs : List D) (st : Store) : Option (D × Store) := match xs with
  | [d] => (dictOfD d st).map fun p => (.loc st.length, st ++ [.dic p.1 p.2])
  | _ => none
def rDictC (K : PySem.W.Frag) : List V → Hp → VK → Prop := fun xs H Q => (∃ (a : Addr) (kvs : List (Key × V)), xs = [.ref a] ∧ Rd H a (.dK kvs) ∧ ∀ p, H p = none → Q (.ref p) (upd H p (.dK kvs))) ∨
  ∃ (a : Addr) (ps : List Addr) (kvs : List (Key × V)), xs = [.ref a] ∧ SqL K H a (ps.map V.ref) ∧ Paired (fun p kv => SqT K H p [kV kv.1, kv.2]) ps kvs ∧ ∀ p, H p = none → Q (.ref p) (upd H p (.dK (mergeK [] kvs)))
theorem call_dictC (hc : X.calm = true) : CallR X (.type "dict") (rDictC X.K) := fun pins s σ H xs us Q I r h => h.elim (fun h => by
  obtain ⟨a, kvs, e, h1, q⟩ := h
  subst e
  obtain ⟨u, eu, rx⟩ := vals1 r
  subst eu
  obtain rfl : u = Value.ref a := rx
  exact d_copyOf I h1 fun p s' hp I' => ⟨.ref p, _, I', rfl, q p hp⟩) fun h => call_dictP hc pins s σ H xs us Q I r h
theorem dictC_of (hK : X.K = g.K) {st : Store} (sr : SR g ρ st H) {d : D} {vs : List V} {p : List Key × List D} {Q : VK} (r : Rps g ρ H [d] vs) (h : dictOfD d st = some p) (q : ∀ (kvs : List (Key × V)), kvs.map (·.1) = p.1 → Rps g ρ H p.2 (kvs.map (·.2)) → ∀ b, H b = none → Q (.ref b) (upd H b (.dK kvs))) : rDictC X.K vs H Q := by
  obtain ⟨v, e, r1⟩ := r.un1
  subst e
  unfold dictOfD at h
  cases hd : dicOf st d with
  | some p' =>
    rw [hd] at h
    cases h
    obtain ⟨a, kvs, e1, h1, h2, h3⟩ := dicOf_ok sr r1 hd
    exact .inl ⟨a, kvs, by rw [e1], h1, q kvs h2 h3⟩
  | none =>
    rw [hd] at h
    simp only [Option.bind_eq_some_iff, Option.map_eq_some_iff] at h
    obtain ⟨xs, h1, kds, h2, h3⟩ := h
    obtain ⟨a, ws, e1, t, s1⟩ := listOf_ok sr r1 h1
    obtain ⟨ps, kvs, e2, e3, e4, e5⟩ := pairsD_ok hK s1 h2
    subst e2
    obtain ⟨m1, m2⟩ := mergeD_ok (g := g) (ρ := ρ) (H := H) (kvs := []) (xs := []) rfl e4 e5
    refine .inr ⟨a, ps, kvs, by rw [e1], .inl t, e3, q _ ?_ ?_⟩
    · rw [← h3]; exact m1
    · rw [← h3]; exact m2
theorem sc_dictC (hK : X.K = g.K) : SC g (rDictC X.K) dDictC := by
  intro xs z st st' ρ H vs Q sr r h q
  unfold dDictC at h
  split at h
  · rw [Option.map_eq_some_iff] at h
    obtain ⟨p, h1, h2⟩ := h
    cases h2
    exact dictC_of hK sr r h1 fun kvs e1 e2 b hb => q _ _ ρ (sr.leLay hb) (sr.lay hb) ⟨b, kvs, rfl, sr.out hb, .inl upd_same, e1, e2.mono (sr.leLay hb)⟩
  · cases h
theorem sc_dictCM (hK : X.K = g.K) : SC g (rDictC X.K) dDictCM := by
  intro xs z st st' ρ H vs Q sr r h q
  unfold dDictCM at h
  split at h
  · rw [Option.map_eq_some_iff] at h
    obtain ⟨p, h1, h2⟩ := h
    cases h2
    exact dictC_of hK sr r h1 fun kvs e1 e2 b hb => q _ _ (ρ.push b) (sr.leNew hb) (sr.new hb ⟨kvs, upd_same, e1, e2.mono (sr.leNew hb)⟩) (Rp.of_loc sr)
  · cases h
section
variable {e : Expr} {es : List Expr} {fa : FA} {p pos : Pos}
theorem sf_dict (hc : X.calm = true) (hg : Gl X "dict") (hm : X.mg "dict" = none) (ha : SA g E X (e :: es) fa) (he : starEach (e :: es) X.env = (false, eval e X.env) :: starEach es X.env := by rfl) (hpl : (backTo pos (starEach es X.env)).any (·.1) = false := by rfl) : SE g E X (.Call (.Name "dict" p) (e :: es) [] pos) (fCB dDictC fa) := .mk fun hK => se_ct (call_dictC hc) (sc_dictC hK) hg hm bb_dict ha (by decide) (by decide) he hpl hK
theorem sf_dictM (hc : X.calm = true) (hg : Gl X "dict") (hm : X.mg "dict" = none) (ha : SA g E X (e :: es) fa) (he : starEach (e :: es) X.env = (false, eval e X.env) :: starEach es X.env := by rfl) (hpl : (backTo pos (starEach es X.env)).any (·.1) = false := by rfl) : SE g E X (.Call (.Name "dict" p) (e :: es) [] pos) (fCB dDictCM fa) := .mk fun hK => se_ct (call_dictC hc) (sc_dictCM hK) hg hm bb_dict ha (by decide) (by decide) he hpl hK
end
/-! ### len -/
def dLen2 (xs : List D) (st : Store) : Option (D × Store) := match xs with
  | [d] => (match dicOf st d with
    | some p => some (.int (p.1.length : Nat), st)
    | none => dLen [d] st)
  | _ => none
def rLenD : List V → Hp → VK → Prop := fun xs H Q => ∃ (a : Addr) (kvs : List (Key × V)), xs = [.ref a] ∧ Rd H a (.dK kvs) ∧ Q (.int kvs.length) H
theorem call_lenDR : CallR X (.builtin "len") rLenD := by
  intro pins s σ H xs us Q I r h
  obtain ⟨a, kvs, e, h1, q⟩ := h
  subst e
  obtain ⟨u, eu, rx⟩ := vals1 r
  subst eu
  obtain rfl : u = Value.ref a := rx
  exact d_len I h1 fun t s' I' => ⟨.int kvs.length, H, I', ⟨t, rfl⟩, q⟩
theorem call_len2 : CallR X (.builtin "len") (fun xs H Q => rLenAll X.K xs H Q ∨ rLenD xs H Q) := fun pins s σ H xs us Q I r h => h.elim (call_lenAll pins s σ H xs us Q I r) (call_lenDR pins s σ H xs us Q I r)
theorem sc_len2 (hK : X.K = g.K) : SC g (fun xs H Q => rLenAll X.K xs H Q ∨ rLenD xs H Q) dLen2 := by
  intro xs z st st' ρ H vs Q sr r h q
  unfold dLen2 at h
  split at h
  · rename_i d
    cases hd : dicOf st d with
    | none => rw [hd] at h; exact .inl (sc_len hK [d] z st st' ρ H vs Q sr r h q)
    | some p =>
      rw [hd] at h
      cases h
      obtain ⟨v, e, r1⟩ := r.un1
      obtain ⟨a, kvs, e1, h1, h2, h3⟩ := dicOf_ok sr r1 hd
      refine .inr ⟨a, kvs, by rw [e, e1], h1, ?_⟩
      have : kvs.length = p.1.length := by rw [← h2, List.length_map]
      rw [this]
      exact q _ H ρ (Le.refl _ _) sr rfl
  · cases h
section
variable {e : Expr} {es : List Expr} {fa : FA} {p pos : Pos}
theorem sf_len2 (hg : Gl X "len") (hm : X.mg "len" = none) (ha : SA g E X (e :: es) fa) (he : starEach (e :: es) X.env = (false, eval e X.env) :: starEach es X.env := by rfl) (hpl : (backTo pos (starEach es X.env)).any (·.1) = false := by rfl) : SE g E X (.Call (.Name "len" p) (e :: es) [] pos) (fCB dLen2 fa) := .mk fun hK => se_cb call_len2 (sc_len2 hK) hg hm bb_len ha (by decide) (by decide) he hpl hK
end
/-! ### sorted of whole numbers, of texts -/
def insI (x : Int) : List Int → List Int
  | [] => [x]
  | y :: r => if x ≤ y then x :: y :: r else y :: insI x r
def sortI : List Int → List Int
  | [] => []
  | x :: r => insI x (sortI r)
theorem insI_perm (x : Int) : ∀ l, (insI x l).Perm (x :: l)
  | [] => .refl _
  | y :: r => by
    unfold insI
    split
    · exact .refl _
    · exact (List.Perm.cons y (insI_perm x r)).trans (List.Perm.swap x y r)
theorem sortI_perm : ∀ l, (sortI l).Perm l
  | [] => .refl _
  | x :: r => (insI_perm x _).trans (List.Perm.cons x (sortI_perm r))
theorem insI_mem {x z : Int} {l : List Int} (h : z ∈ insI x l) : z = x ∨ z ∈ l := by simpa using (insI_perm x l).mem_iff.mp h
theorem insI_sorted (x : Int) : ∀ l : List Int, l.Pairwise (· ≤ ·) → (insI x l).Pairwise (· ≤ ·)
  | [], _ => by simp [insI]
  | y :: r, h => by
    unfold insI
    have h1 := List.pairwise_cons.mp h
    split
    · rename_i hxy
      exact List.pairwise_cons.mpr ⟨fun z hz => (List.mem_cons.mp hz).elim (fun e => by rw [e]; exact hxy) fun hz => Int.le_trans hxy (h1.1 z hz), h⟩
    · rename_i hxy
      exact List.pairwise_cons.mpr ⟨fun z hz => (insI_mem hz).elim (fun e => by rw [e]; omega) fun hz => h1.1 z hz, insI_sorted x r h1.2⟩
theorem sortI_sorted : ∀ l : List Int, (sortI l).Pairwise (· ≤ ·)
  | [] => .nil
  | x :: r => insI_sorted x _ (sortI_sorted r)
theorem sorted_one {α : Type} {le : α → α → Prop} (anti : ∀ a b, le a b → le b a → a = b) : ∀ {l m : List α}, l.Perm m → l.Pairwise le → m.Pairwise le → l = m
  | [], m, p, _, _ => (List.nil_perm.mp p).symm
  | a :: l, m, p, h1, h2 => by
    cases m with
    | nil => exact absurd p.length_eq (by simp)
    | cons b m =>
      have ha := List.pairwise_cons.mp h1
      have hb := List.pairwise_cons.mp h2
      have e : a = b := by
        rcases List.mem_cons.mp (p.mem_iff.mp List.mem_cons_self) with e | hm
        · exact e
        · rcases List.mem_cons.mp (p.symm.mem_iff.mp List.mem_cons_self) with e | hl
          · exact e.symm
          · exact anti a b (ha.1 b hl) (hb.1 a hm)
      subst e
      rw [sorted_one anti (List.perm_cons a |>.mp p) ha.2 hb.2]
theorem sortI_of {l m : List Int} (p : m.Perm l) (s : m.Pairwise (· ≤ ·)) : m = sortI l := sorted_one (fun a b h1 h2 => Int.le_antisymm h1 h2) (p.trans (sortI_perm l).symm) s (sortI_sorted l)
/-- texts by their signs -/
def strLe (a b : Str) : Bool := !(ltCps b.cps.toList a.cps.toList)
theorem strLe_iff {a b : Str} : strLe a b = true ↔ a.cps.toList ≤ b.cps.toList := by
  unfold strLe
  rw [ltCps_eq]
  simp
theorem strLe_trans {a b c : Str} (h1 : strLe a b = true) (h2 : strLe b c = true) : strLe a c = true := by
  rw [strLe_iff] at *
  exact List.le_trans h1 h2
theorem strLe_anti {a b : Str} (h1 : strLe a b = true) (h2 : strLe b a = true) : a = b := by
  rw [strLe_iff] at *
  have := List.le_antisymm h1 h2
  cases a; cases b
  exact congrArg Str.mk (Array.toList_inj.mp this)
theorem strLe_total {a b : Str} (h : ¬strLe a b = true) : strLe b a = true := by
  rw [strLe_iff] at *
  rcases List.le_total a.cps.toList b.cps.toList with h1 | h1
  · exact absurd h1 h
  · exact h1
theorem risingS_pair : ∀ (p : Str) (l : List Str), risingS p l = true → (p :: l).Pairwise (fun a b => strLe a b = true)
  | p, [], _ => by simp
  | p, x :: r, h => by
    have h : (!ltCps x.cps.toList p.cps.toList && risingS x r) = true := h
    rw [Bool.and_eq_true] at h
    have ih := risingS_pair x r h.2
    refine List.pairwise_cons.mpr ⟨fun z hz => ?_, ih⟩
    rcases List.mem_cons.mp hz with e | hz
    · rw [e]; exact h.1
    · exact strLe_trans h.1 ((List.pairwise_cons.mp ih).1 z hz)
theorem sortedS_pair : ∀ (l : List Str), sortedS l = true → l.Pairwise (fun a b => strLe a b = true)
  | [], _ => .nil
  | x :: r, h => risingS_pair x r h
def insS (x : Str) : List Str → List Str
  | [] => [x]
  | y :: r => if strLe x y then x :: y :: r else y :: insS x r
def sortS : List Str → List Str
  | [] => []
  | x :: r => insS x (sortS r)
theorem insS_perm (x : Str) : ∀ l, (insS x l).Perm (x :: l)
  | [] => .refl _
  | y :: r => by
    unfold insS
    split
    · exact .refl _
    · exact (List.Perm.cons y (insS_perm x r)).trans (List.Perm.swap x y r)
theorem sortS_perm : ∀ l, (sortS l).Perm l
  | [] => .refl _
  | x :: r => (insS_perm x _).trans (List.Perm.cons x (sortS_perm r))
theorem insS_sorted (x : Str) : ∀ l : List Str, l.Pairwise (fun a b => strLe a b = true) → (insS x l).Pairwise (fun a b => strLe a b = true)
  | [], _ => by simp [insS]
  | y :: r, h => by
    unfold insS
    have h1 := List.pairwise_cons.mp h
    split
    · rename_i hxy
      exact List.pairwise_cons.mpr ⟨fun z hz => (List.mem_cons.mp hz).elim (fun e => by rw [e]; exact hxy) fun hz => strLe_trans hxy (h1.1 z hz), h⟩
    · rename_i hxy
      refine List.pairwise_cons.mpr ⟨fun z hz => ?_, insS_sorted x r h1.2⟩
      rcases (by simpa using (insS_perm x r).mem_iff.mp hz : z = x ∨ z ∈ r) with e | hz
      · rw [e]; exact strLe_total hxy
      · exact h1.1 z hz
theorem sortS_sorted : ∀ l : List Str, (sortS l).Pairwise (fun a b => strLe a b = true)
  | [] => .nil
  | x :: r => insS_sorted x _ (sortS_sorted r)
theorem sortS_of {l m : List Str} (p : m.Perm l) (s : sortedS m = true) : m = sortS l := sorted_one (le := fun a b => strLe a b = true) (fun a b h1 h2 => strLe_anti h1 h2) (p.trans (sortS_perm l).symm) (sortedS_pair m s) (sortS_sorted l)
/-- all keys texts, all whole numbers -/
def keyStrs : List Key → Option (List Str)
  | [] => some []
  | .inr s :: r => (keyStrs r).map (s :: ·)
  | _ => none
def keyInts : List Key → Option (List Int)
  | [] => some []
  | .inl s :: r => (keyInts r).map (s :: ·)
  | _ => none
theorem keyStrs_ok : ∀ {ks : List Key} {ss : List Str}, keyStrs ks = some ss → ks = ss.map Sum.inr
  | [], ss, h => by cases h; rfl
  | .inr s :: r, ss, h => by
    simp only [keyStrs, Option.map_eq_some_iff] at h
    obtain ⟨t, h1, h2⟩ := h
    subst h2
    rw [keyStrs_ok h1] <;> rfl
  | .inl s :: r, ss, h => by cases h
theorem keyInts_ok : ∀ {ks : List Key} {ss : List Int}, keyInts ks = some ss → ks = ss.map Sum.inl
  | [], ss, h => by cases h; rfl
  | .inl s :: r, ss, h => by
    simp only [keyInts, Option.map_eq_some_iff] at h
    obtain ⟨t, h1, h2⟩ := h
    subst h2
    rw [keyInts_ok h1] <;> rfl
  | .inr s :: r, ss, h => by cases h
def few (n : Nat) : Bool := decide (n < 64)
def sortedD (d : D) (st : Store) : Option (List D) := match dicOf st d with
  | some p => (match keyStrs p.1 with
    | some ss => if few ss.length then some ((sortS ss).map D.str) else none
    | none => (match keyInts p.1 with
      | some ns => if few ns.length then some ((sortI ns).map D.int) else none
      | none => none))
  | none => (seqL st d).bind fun xs => match intsOf xs with
    | some ns => some ((sortI ns).map D.int)
    | none => (match strsOf xs with
      | some ss => if few ss.length then some ((sortS ss).map D.str) else none
      | none => none)
where seqL (st : Store) (d : D) : Option (List D) := listOf st d
def dSorted (xs : List D) (st : Store) : Option (D × Store) := match xs with
  | [d] => (sortedD d st).map fun ys => (.lst ys, st)
  | _ => none
def rSortAll (K : PySem.W.Frag) : List V → Hp → VK → Prop := fun xs H Q => (rSortedI K xs H Q ∨ rSortedS K xs H Q) ∨
  ((∃ (a : Addr) (kvs : List (Key × V)) (ks : List Str), xs = [.ref a] ∧ Rd H a (.dK kvs) ∧ kvs.map (·.1) = ks.map Sum.inr ∧ ks.length < 64 ∧ ∀ ys p, ys.Perm ks → sortedS ys = true → H p = none → Q (.ref p) (upd H p (.lst (ys.map V.str)))) ∨
    ∃ (a : Addr) (kvs : List (Key × V)) (ks : List Int), xs = [.ref a] ∧ Rd H a (.dK kvs) ∧ kvs.map (·.1) = ks.map Sum.inl ∧ ks.length < 64 ∧ ∀ (ys : List Int) (p : Addr), ys.Perm ks → ys.Pairwise (· ≤ ·) → H p = none → Q (.ref p) (upd H p (.lst (ys.map V.int))))
theorem call_sortAll (hc : X.calm = true) : CallR X (.builtin "sorted") (rSortAll X.K) := fun pins s σ H xs us Q I r h =>
  h.elim (fun h => h.elim (cr_sortedI pins s σ H xs us Q I r) (cr_sortedS pins s σ H xs us Q I r)) fun h => h.elim (call_sortedD hc pins s σ H xs us Q I r) (call_sortedDI hc pins s σ H xs us Q I r)
theorem few_lt {n : Nat} (h : few n = true) : n < 64 := of_decide_eq_true h
theorem sc_sorted (hK : X.K = g.K) : SC g (rSortAll X.K) dSorted := by
  intro xs z st st' ρ H vs Q sr r h q
  unfold dSorted at h
  split at h
  · rename_i d
    rw [Option.map_eq_some_iff] at h
    obtain ⟨ys, h1, h2⟩ := h
    cases h2
    obtain ⟨v, e, r1⟩ := r.un1
    have fin : ∀ (ws : List V) (b : Addr), H b = none → Rps g ρ H ys ws → Q (.ref b) (upd H b (.lst ws)) := fun ws b hb rs => q _ _ ρ (sr.leLay hb) (sr.lay hb) (Rp.of_lst sr hb rs)
    unfold sortedD at h1
    cases hd : dicOf st d with
    | some p =>
      rw [hd] at h1
      obtain ⟨a, kvs, e1, q1, q2, q3⟩ := dicOf_ok sr r1 hd
      simp only at h1
      split at h1
      · rename_i ss hs
        obtain ⟨h3, h4⟩ := if_some h1
        subst h4
        refine .inr (.inl ⟨a, kvs, ss, by rw [e, e1], q1, by rw [q2, keyStrs_ok hs], few_lt h3, fun ms b pm sm hb => ?_⟩)
        rw [sortS_of pm sm]
        exact fin _ b hb (Rps.of_strs _)
      · split at h1
        · rename_i ns hs
          obtain ⟨h3, h4⟩ := if_some h1
          subst h4
          refine .inr (.inr ⟨a, kvs, ns, by rw [e, e1], q1, by rw [q2, keyInts_ok hs], few_lt h3, fun ms b pm sm hb => ?_⟩)
          rw [sortI_of pm sm]
          exact fin _ b hb (Rps.of_ints _)
        · cases h1
    | none =>
      rw [hd] at h1
      simp only [Option.bind_eq_some_iff] at h1
      obtain ⟨zs, h2, h3⟩ := h1
      obtain ⟨a, ws, e1, t, s1⟩ := listOf_ok sr r1 (show listOf st d = some zs from h2)
      split at h3
      · rename_i ns hs
        cases h3
        refine .inl (.inl ⟨a, ns, by rw [e, e1], by rw [← intsOf_ok s1 hs]; exact .inl t, fun ms b pm sm hb => ?_⟩)
        rw [sortI_of pm sm]
        exact fin _ b hb (Rps.of_ints _)
      · split at h3
        · rename_i ss hs
          obtain ⟨h4, h5⟩ := if_some h3
          subst h5
          refine .inl (.inr ⟨a, ss, by rw [e, e1], by rw [← strsOf_ok s1 hs]; exact .inl t, few_lt h4, fun ms b pm sm hb => ?_⟩)
          rw [sortS_of pm sm]
          exact fin _ b hb (Rps.of_strs _)
        · cases h3
  · cases h
theorem bb_sorted : bootBuiltins "sorted" = some (.builtin "sorted") := by decide +kernel
section
variable {e : Expr} {es : List Expr} {fa : FA} {p pos : Pos}
theorem sf_sorted (hc : X.calm = true) (hg : Gl X "sorted") (hm : X.mg "sorted" = none) (ha : SA g E X (e :: es) fa) (he : starEach (e :: es) X.env = (false, eval e X.env) :: starEach es X.env := by rfl) (hpl : (backTo pos (starEach es X.env)).any (·.1) = false := by rfl) : SE g E X (.Call (.Name "sorted" p) (e :: es) [] pos) (fCB dSorted fa) := .mk fun hK => se_cb (call_sortAll hc) (sc_sorted hK) hg hm bb_sorted ha (by decide) (by decide) he hpl hK
end
end Hw
/-! HwU: how many unlike texts, unlike whole numbers. -/
namespace Hw
open PySem PySem.Spec PyProof.Rows SS
def metS (xs : List Str) (i : Nat) : List Str := (xs.take i).foldl (fun σ v => if σ.any (· == v) then σ else σ ++ [v]) []
theorem metS_succ (xs : List Str) {i : Nat} (h : i < xs.length) : metS xs (i + 1) = if (metS xs i).any (· == xs.getD i Str.empty) then metS xs i else metS xs i ++ [xs.getD i Str.empty] := by
  unfold metS
  rw [List.take_add_one, List.getD_eq_getElem?_getD, List.getElem?_eq_getElem h, Option.toList_some, Option.getD_some, List.foldl_append]
  rfl
theorem metS_len (xs : List Str) : ∀ i, (metS xs i).length ≤ i
  | 0 => by simp [metS]
  | i + 1 => by
    have ih := metS_len xs i
    by_cases h : i < xs.length
    · rw [metS_succ xs h]
      split
      · omega
      · rw [List.length_append, List.length_singleton]; omega
    · have e : metS xs (i + 1) = metS xs i := by
        unfold metS
        rw [List.take_of_length_le (by omega), List.take_of_length_le (by omega)]
      rw [e]; omega
section
variable {prog : Program} {w : World} {A : Around} {R : Result → Shared → Prop} {I : Addr} {fp wr : List Addr} {G : Array GenState → Array GenState → Prop} {n : Nat} {P : Nat → Value → Prop} {St : Nat → Shared → Prop}
theorem loopS (W : WalksS prog w A.in1 I fp wr G n P St) (S : Addr) (hSf : S ∉ fp) (xs : List Str) (hb : n + 1 < scanBound)
    (hval : ∀ i v, P i v → ∃ t, v = .str (xs.getD i Str.empty) t) (hsz : n = xs.length) :
    ∀ (k i : Nat) (s : Shared), n - i = k → i ≤ n → St i s →
      s.heap.SetOf (PySem.strKind prog w) S (fun k' => (metS xs i).any (· == k')) (metS xs i).length →
      (∀ s', Moved (S :: wr) G s s' → s'.heap.SetOf (PySem.strKind prog w) S (fun k' => (metS xs n).any (· == k')) (metS xs n).length → R (.ok (.ret .none)) s') →
      codeAny (model prog w) A (.builtin "set.update.loop" ⟨[.ref S, .ref I], []⟩) R s := by
  have hSw : S ∉ wr := fun h => hSf (W.sub _ h)
  have hsub : ∀ b ∈ wr, b ∈ S :: wr := fun b hb => List.mem_cons_of_mem _ hb
  intro k
  induction k with
  | zero =>
    intro i s hk hi hst hS hR
    have hin : i = n := by omega
    subst hin
    refine codeAny_builtin PyProof.Rows.F.entry_set_update_loop ?_
    rw [Around.under_plainId PyProof.Rows.F.plain_set_update_loop _]
    show wpAny _ A.in1 (pyNext (.ref I) >>= _) _ _ s
    refine wpAny_bind (W.done s _ _ hst fun s' hm => ?_)
    show wpAny _ A.in1 (ret Value.none) _ _ s'
    exact wpAny_pure (hR s' (hm.mono hsub) (by
      obtain ⟨o, es, ep, t, ho, rest⟩ := hS
      exact ⟨o, es, ep, t, hm.heap S _ hSw ho, rest⟩))
  | succ k ih =>
    intro i s hk hi hst hS hR
    have hlt : i < n := by omega
    refine codeAny_builtin PyProof.Rows.F.entry_set_update_loop ?_
    rw [Around.under_plainId PyProof.Rows.F.plain_set_update_loop _]
    show wpAny _ A.in1 (pyNext (.ref I) >>= _) _ _ s
    refine wpAny_bind (W.item i s _ _ hlt hst fun v s' hP hst' hm => ?_)
    obtain ⟨t, rfl⟩ := hval i v hP
    have hS' : s'.heap.SetOf (PySem.strKind prog w) S (fun k' => (metS xs i).any (· == k')) (metS xs i).length := by
      obtain ⟨o, es, ep, tb, ho, rest⟩ := hS
      exact ⟨o, es, ep, tb, hm.heap S _ hSw ho, rest⟩
    show wpAny _ A.in1 (holding [Value.str (xs.getD i Str.empty) t] (setAdd S (.str (xs.getD i Str.empty) t)) >>= _) _ _ s'
    refine wpAny_bind (wpAny_holding ?_)
    unfold setAdd
    refine wpAny_holding ?_
    refine wpAny_bind ((PySem.strKind prog w).pyHash (k := xs.getD i Str.empty) (strKind_is _ _ _ _) ?_)
    have hroom : (metS xs i).length + 1 < scanBound := by have := metS_len xs i; omega
    refine wpAny_setAddHashed_of (knd := PySem.strKind prog w) (s := { s' with toks := s'.toks + 1 }) (strKind_is _ _ _ _) rfl hS' hroom fun h' hsb hS2 => ?_
    have hSi : h'.SetOf (PySem.strKind prog w) S (fun k' => (metS xs (i + 1)).any (· == k')) (metS xs (i + 1)).length := by
      refine PyProof.Rows.SetOf_congr hS2 (fun k' => ?_) ?_
      · rw [metS_succ xs (by omega)]
        by_cases h : (metS xs i).any (· == xs.getD i Str.empty) = true
        · rw [if_pos h]
          by_cases e : k' = xs.getD i Str.empty
          · subst e; rw [h]; simp
          · rw [decide_eq_false e, Bool.or_false]
        · rw [if_neg h, List.any_append]
          by_cases e : k' = xs.getD i Str.empty
          · subst e; simp
          · have hb : (xs.getD i Str.empty == k') = false := by simpa [beq_iff_eq] using (fun h' : xs.getD i Str.empty = k' => e h'.symm)
            have hb2 : decide (k' = xs.getD i Str.empty) = false := decide_eq_false e
            rw [hb2]
            simp only [List.any_cons, hb, List.any_nil, Bool.or_false]
      · rw [metS_succ xs (by omega)]
        by_cases h : (metS xs i).any (· == xs.getD i Str.empty) = true
        · rw [if_pos h, if_pos h]
        · rw [if_neg h, if_neg h, List.length_append, List.length_singleton]
    refine wpAny_pure ⟨plainId_quiet PyProof.Rows.F.plain_set_update_loop _, ih (i + 1) _ (by omega) hlt (W.frame _ s' _ _ hst' (Nat.le_succ _) fun b hb o e => ?_) hSi fun s'' hm'' hS'' => ?_⟩
    · rw [hsb.2 b (fun h : b = S => hSf (by rw [← h]; exact hb))]; exact e
    · refine hR s'' (Moved.trans W.gtrans ((hm.mono hsub).then_heap (Nat.le_succ _) fun b o hb e => ?_) hm'') hS''
      rw [hsb.2 b (fun h : b = S => hb (by rw [h]; exact List.mem_cons_self))]; exact e
end
section
variable {prog : Program} {w : World} {A : Around} {E : Value → Shared → Prop} {s : Shared}
theorem call_set_tupS {l : Addr} {items : Array Value} {xs : List Str} {Q : Value → Shared → Prop}
    (hh : A.handled = none) (hl : s.heap.IsTuple l items) (hi : PyProof.Rows.StrsAre items.toList xs) (hb : items.size + 1 < scanBound)
    (h : ∀ (h' : Heap) (tk : Nat), h'.SetOf (PySem.strKind prog w) s.heap.objs.size (fun k' => (metS xs items.size).any (· == k')) (metS xs items.size).length →
      (∀ b o, b < s.heap.objs.size → s.heap.get? b = some o → h'.get? b = some o) → Q (.ref s.heap.objs.size) { s with heap := h', toks := tk }) :
    wpAny (model prog w) A (call (.type "set") [.ref l]) Q E s := by
  obtain ⟨c, tl, hmro⟩ := PySem.F.called_set.mro
  have hmade := PySem.F.called_set.made
  have hsub := PySem.F.called_set.sub
  refine wpAny_call (codeAny_of_tree ?_)
  show wpAny _ _ (callAny (.type "set") _) _ _ _
  refine wpAny_pure ⟨Code.quiet_builtin _ (by decide +kernel), codeAny_builtin PySem.F.entry_type_call ?_⟩
  rw [Around.under_plain (weight_type_call_type "set" [.ref l] []) rfl]
  have h1 := PySem.F.called_set.notType
  have h2 := PySem.F.called_set.canCreate
  have hct := PySem.F.typeCall_set_1 (.ref l)
  repeat (any_goals (first | assumption | wp_step))

  refine codeAny_mono (code_set_new_1 (.ref l) (E := E) (Q₁ := fun obj s₁ => ∃ led : Bool, obj = .ref s.heap.objs.size ∧ s₁ = { s with heap := s.heap.push { cls := .type "set", dict := none, data := .set #[] 0 (.fresh 0 0 led) } }) fun led => ⟨led, rfl, rfl⟩) fun r s₁ hr => ?_
  cases r with
  | error e => exact hr
  | ok fl =>
    cases fl with
    | ret obj =>
      obtain ⟨led, rfl, rfl⟩ := hr
      have hS : (s.heap.push { cls := .type "set", dict := none, data := .set #[] 0 (.fresh 0 0 led) }).get? s.heap.objs.size = some { cls := .type "set", dict := none, data := .set #[] 0 (.fresh 0 0 led) } := Heap.get?_push_size _ rfl
      have hT : Shared.TypeIs { s with heap := s.heap.push { cls := .type "set", dict := none, data := .set #[] 0 (.fresh 0 0 led) } } (.ref s.heap.objs.size) "set" := ⟨_, hS, rfl⟩
      have hli := PySem.F.called_set.init.lookup
      have hbi := PySem.F.called_set.init.bind (.ref s.heap.objs.size)
      repeat (any_goals (first | assumption | wp_step))

      refine codeAny_mono (codeAny_call_builtin (R := wants (fun r s₂ => r = .none ∧ ∃ h' tk, s₂ = { s with heap := h', toks := tk } ∧
          h'.SetOf (PySem.strKind prog w) s.heap.objs.size (fun k' => (metS xs items.size).any (· == k')) (metS xs items.size).length ∧
          (∀ b o, b < s.heap.objs.size → s.heap.get? b = some o → h'.get? b = some o)) E) PySem.F.called_set.init.plain PySem.F.entry_set_init (check_set_init_1 hT ?_)) fun r₂ s₂ hr₂ => ?_
      · obtain ⟨ol, hol, hcl, nl, hdl⟩ := hl
        obtain ⟨ocls, odict, odata, oslots⟩ := ol
        simp only at hcl hdl
        subst hcl; subst hdl
        have hol' : (s.heap.push { cls := .type "set", dict := none, data := .set #[] 0 (.fresh 0 0 led) }).get? l = some { cls := .type "tuple", dict := odict, data := .seq items nl, slots := oslots } := Heap.get?_push_of_some _ hol
        have hsls := PySem.F.sub_tuple_set
        have hslf := PySem.F.sub_tuple_frozenset
        have hne : (Value.type "tuple" == Value.type "dict") = false := by decide
        have hl1 : (s.heap.push { cls := .type "set", dict := none, data := .set #[] 0 (.fresh 0 0 led) }).IsTuple l items := ⟨_, hol', rfl, nl, rfl⟩
        unfold Builtin.«set.__init__» noKeywords Builtin.Frozenset.updateFrom
        generalize hPI : pyIter = PI
        wp_walk
        subst hPI

        refine wpAny_pyIter_tuple hl1 ?_
        refine wpAny_bind (wpAny_runValue ?_)
        have hlS : l < s.heap.objs.size := Heap.lt_size hol
        have hh3 : A.in1.in1.in1.handled = none := by simp [hh]
        have hneI : l ≠ (s.heap.push { cls := .type "set", dict := none, data := .set #[] 0 (.fresh 0 0 led) }).objs.size := by
          rw [Heap.size_push]; exact Nat.ne_of_lt (Nat.lt_succ_of_lt hlS)
        have hSf : s.heap.objs.size ∉ [(s.heap.push { cls := .type "set", dict := none, data := .set #[] 0 (.fresh 0 0 led) }).objs.size, l] := by
          rw [Heap.size_push]; simp only [List.mem_cons, List.mem_singleton, List.not_mem_nil, or_false, not_or]
          exact ⟨Nat.ne_of_lt (Nat.lt_succ_self _), Nat.ne_of_gt hlS⟩
        have hsz : xs.length = items.size := by rw [← StrsAre.len_eq hi, Array.length_toList]
        have hval : ∀ (i : Nat) (v : Value), items[i]? = some v → ∃ t, v = .str (xs.getD i Str.empty) t := fun i v hv => SS.strs_at hi i v (by rw [Array.getElem?_toList]; exact hv)
        refine loopS ((Walks.tuple hh3 _ l hneI items).toS) s.heap.objs.size
          hSf xs hb hval hsz.symm (items.size - 0) 0 _ (by omega) (Nat.zero_le _)
          ⟨⟨_, Heap.get?_push_size _ rfl, rfl, rfl⟩, (hl1.push _)⟩ ?hS0 ?hR
        case hS0 =>
          have hget : ((s.heap.push { cls := .type "set", dict := none, data := .set #[] 0 (.fresh 0 0 led) }).push { cls := .type "tuple_iterator", data := .fields #[.ref l, .int 0 0] }).get? s.heap.objs.size
              = some { cls := .type "set", dict := none, data := .set #[] 0 (.fresh 0 0 led) } := Heap.get?_push_of_some _ hS
          exact PyProof.Rows.SetOf_congr ((PyProof.Rows.setObjOf_fresh (knd := PySem.strKind prog w) led).setOf hget (by unfold scanBound; omega)) (fun _ => rfl) rfl
        case hR =>
          intro s' hm hS'
          obtain ⟨h', g', d', tk', os'⟩ := s'
          have eg : g' = s.gens := hm.gens
          have ed : d' = s.drawn := hm.drawn
          have eo : os' = s.os := hm.os
          subst eg; subst ed; subst eo
          show wpAny _ _ _ _ _ _
          refine wpAny_pure ?_
          show wpAny _ _ (ret Value.none) _ _ _
          refine wpAny_pure ⟨rfl, h', tk', rfl, hS', fun b o hb e => ?_⟩
          have hb1 : b ≠ s.heap.objs.size := Nat.ne_of_lt hb
          have hb2 : b ≠ (s.heap.push { cls := .type "set", dict := none, data := .set #[] 0 (.fresh 0 0 led) }).objs.size := by
            rw [Heap.size_push]; exact Nat.ne_of_lt (Nat.lt_succ_of_lt hb)
          exact hm.heap b o (by simp only [List.mem_cons, List.mem_singleton, List.not_mem_nil, or_false, not_or]; exact ⟨hb1, hb2⟩) (Heap.get?_push_of_some _ (Heap.get?_push_of_some _ e))

      · cases r₂ with
        | error e => exact hr₂
        | ok fl₂ =>
          cases fl₂ with
          | ret r =>
            obtain ⟨rfl, h', tk, rfl, hS', hk'⟩ := hr₂
            repeat (any_goals (first | assumption | wp_step))
            exact h _ _ hS' hk'
          | _ => exact hr₂.elim
    | _ => exact hr.elim

end
end Hw
/-! HwR: len(set(..)), zip, list and text methods, slices backward. -/
namespace Hw
open PySem PySem.Spec PyProof.Rows L2
variable {g : G} {ρ ρ' ρ'' : Pl} {H H' H'' : Hp} {E : XK} {X : Cx}
/-! ### len(set(xs)) -/
def metI (ns : List Int) : List Int := PyProof.Rows.firstMet (fun i => ns.getD i 0) ns.length
def rLenSet (K : PySem.W.Frag) : V → Hp → VK → Prop := fun x H Q => (∃ (l : Addr) (ns : List Int), x = V.ref l ∧ SqL K H l (ns.map V.int) ∧ ns.length ≤ 1000 ∧ Q (.int (metI ns).length) H) ∨
  ∃ (l : Addr) (xs : List Str), x = V.ref l ∧ SqT K H l (xs.map V.str) ∧ xs.length ≤ 1000 ∧ Q (.int (metS xs xs.length).length) H
theorem pe_lenSetD {a : Expr} {ta : TE} {p p2 q pos : Pos} (hc : X.calm = true) (hg : Gl X "len") (hm : X.mg "len" = none) (hg2 : Gl X "set") (hm2 : X.mg "set" = none) (ha : PE X a ta)
    (na : starEach [a] X.env = (false, eval a X.env) :: starEach [] X.env := by rfl) : PE X (.Call (.Name "len" p) [.Call (.Name "set" p2) [a] [] q] [] pos) (fun σ H Q => ta σ H fun x H1 => rLenSet X.K x H1 Q) := by
  refine ⟨fun pins s σ H Q I h => ?_⟩
  refine Call_ (ld_blt I hg hm boot_len ?_)
  refine PyProof.Rows.callWith_builtin1 (PyProof.Rows.args_cons ?_ rfl) rfl rfl
  refine Call_ (ld_blt I hg2 hm2 boot_set ?_)
  refine PyProof.Rows.callWith_type1 (PyProof.Rows.args_cons (thn (ha.run pins s σ H _ I h) fun v s1 ⟨x, H1, I1, r1, q1⟩ => PyProof.Rows.args_nil ?_) na) na rfl
  rcases q1 with ⟨l, ns, rfl, hq, hl, q1⟩ | ⟨l, xs, rfl, hq, hl, q1⟩
  · cases r1
    obtain ⟨its, r, pl, hz⟩ := I1.list hq
    have hlen : its.toArray.size = ns.length := by rw [List.size_toArray, ← r.length, List.length_map]
    refine call_set_list (I1.ok.hd hc) pl.isList (by simpa using RZ.intsAre_vals r) (by rw [hlen]; unfold scanBound; omega) fun h' tk hS hk => ?_
    refine PyProof.Rows.args_nil ?_
    rw [hlen] at hS
    obtain ⟨o, es, ep, t, ho, hex, hd, _, _, _, hf, hn⟩ := hS
    have I2 : Inv X pins σ H1 { s1 with heap := h', toks := tk } := I1.kept fun b o e => hk b o (Heap.lt_size e) e
    have hle := PyProof.Rows.firstMet_length_le (fun i => ns.getD i 0) ns.length
    exact call_len_set ho hex hd hf (by rw [hn]; omega) ⟨.int (metI ns).length, H1, I2.tok _, ⟨_, by rw [hn] <;> rfl⟩, q1⟩
  · cases r1
    obtain ⟨its, r, pl, hz⟩ := I1.tuple hq
    have hlen : its.toArray.size = xs.length := by rw [List.size_toArray, ← r.length, List.length_map]
    refine call_set_tupS (I1.ok.hd hc) pl (by simpa using strsAre_of r) (by rw [hlen]; unfold scanBound; omega) fun h' tk hS hk => ?_
    refine PyProof.Rows.args_nil ?_
    rw [hlen] at hS
    obtain ⟨o, es, ep, t, ho, hex, hd, _, _, _, hf, hn⟩ := hS
    have I2 : Inv X pins σ H1 { s1 with heap := h', toks := tk } := I1.kept fun b o e => hk b o (Heap.lt_size e) e
    have hle := metS_len xs xs.length
    exact call_len_set ho hex hd hf (by rw [hn]; omega) ⟨.int (metS xs xs.length).length, H1, I2.tok _, ⟨_, by rw [hn] <;> rfl⟩, q1⟩
def thou (n : Nat) : Bool := decide (n ≤ 1000)
def dLenSet (d : D) (st : Store) : Option (D × Store) := match d with
  | .tup xs => (strsOf xs).bind fun ss => if thou ss.length then some (.int ((metS ss ss.length).length : Nat), st) else none
  | d => (listOf st d).bind fun xs => (intsOf xs).bind fun ns => if thou ns.length then some (.int ((metI ns).length : Nat), st) else none
def fLenSet (f : FE) : FE := fun σ st => (f σ st).bind fun d st1 => R.of (dLenSet d st1)
theorem se_lenSet {a : Expr} {f : FE} {p p2 q pos : Pos} (hc : X.calm = true) (hg : Gl X "len") (hm : X.mg "len" = none) (hg2 : Gl X "set") (hm2 : X.mg "set" = none) (ha : SE g E X a f) (na : starEach [a] X.env = (false, eval a X.env) :: starEach [] X.env := by rfl) :
    SE g E X (.Call (.Name "len" p) [.Call (.Name "set" p2) [a] [] q] [] pos) (fLenSet f) := .mk fun hK tk σ st σV H ρ Q er sr h =>
  mx_of (pe_lenSetD hc hg hm hg2 hm2 (pe_mx (e := a)) na) (ha hK tk σ st σV H ρ _ er sr (Ok1.bind h fun d st1 v H1 ρ1 l1 s1 r1 h1 => by
    obtain ⟨z, st', e, q⟩ := h1.of
    have viaL : ((Hw.listOf st1 d).bind fun xs => (intsOf xs).bind fun ns => if thou ns.length then some (D.int ((metI ns).length : Nat), st1) else none) = some (z, st') → rLenSet X.K v H1 Q := fun e => by
      simp only [Option.bind_eq_some_iff] at e
      obtain ⟨xs, e1, ns, e2, e3⟩ := e
      obtain ⟨e4, e5⟩ := if_some e3
      cases e5
      obtain ⟨a, ws, e6, t, s⟩ := listOf_ok s1 r1 e1
      exact .inl ⟨a, ns, e6, by rw [← intsOf_ok s e2]; exact .inl t, of_decide_eq_true e4, q _ H1 ρ1 (Le.refl _ _) s1 rfl⟩
    cases d with
    | tup xs =>
      simp only [dLenSet, Option.bind_eq_some_iff] at e
      obtain ⟨ss, e2, e3⟩ := e
      obtain ⟨e4, e5⟩ := if_some e3
      cases e5
      obtain ⟨a, ws, e6, t, s⟩ := tup_ok hK r1
      exact .inr ⟨a, ss, e6, by rw [← strsOf_ok s e2]; exact t, of_decide_eq_true e4, q _ H1 ρ1 (Le.refl _ _) s1 rfl⟩
    | _ => exact viaL e))
/-! ### zip -/
def zipped : List D → List D → List D
  | x :: xs, y :: ys => .tup [x, y] :: zipped xs ys
  | _, _ => []
theorem zipped_length : ∀ (xs ys : List D), (zipped xs ys).length = min xs.length ys.length
  | [], ys => by simp [zipped]
  | x :: xs, [] => by simp [zipped]
  | x :: xs, y :: ys => by simp [zipped, zipped_length xs ys]
theorem zipped_get : ∀ {xs ys : List D} {i : Nat} {x y : D}, xs[i]? = some x → ys[i]? = some y → (zipped xs ys)[i]? = some (.tup [x, y])
  | [], ys, i, x, y, h, _ => by simp at h
  | _ :: _, [], i, x, y, _, h => by simp at h
  | a :: xs, b :: ys, 0, x, y, h, h' => by simp at h h'; subst h h'; rfl
  | a :: xs, b :: ys, i + 1, x, y, h, h' => by
    simp at h h'
    simpa [zipped] using zipped_get h h'
theorem pair_newD {κ : Pl} {H1 : Hp} {st : Store} {T : Addr} {d e : D} {x y : V} (s : SR g κ st H1) (hT : H1 T = none) (r : Rp g κ H1 d x) (r2 : Rp g κ H1 e y) : Le κ H1 κ (upd H1 T (.tup [x, y])) ∧ SR g κ st (upd H1 T (.tup [x, y])) ∧ Rp g κ (upd H1 T (.tup [x, y])) (.tup [d, e]) (.ref T) :=
  ⟨s.leLay hT, s.lay hT, Rp.of_tup s hT ⟨_, _, rfl, r, _, _, rfl, r2, rfl⟩⟩
theorem it_zipT {a b : Addr} {vs ws : List V} {xs ys : List D} (h : TupAt g ρ H a vs) (h' : TupAt g ρ H b ws) (r : Rps g ρ H xs vs) (r' : Rps g ρ H ys ws) : ItOk g ρ H (RZ.ItzT g.K a b) (zipped xs ys) := by
  have st : ∀ {a : Addr} {vs : List V}, TupAt g ρ H a vs → ∀ (ρ1 : Pl) (H1 : Hp), Le ρ H ρ1 H1 → SqT g.K H1 a vs := fun h ρ1 H1 l => h.imp (fun z => l.keep _ _ z.2 z.1.1 rfl) id
  refine ⟨fun i ρ1 H1 hi l => ?_, fun ρ1 H1 l => ?_, fun i ρ1 κ H1 sto x H2 hi l k s y => ?_⟩
  · rw [zipped_length] at hi
    exact ⟨vs, ws, vs[i]'(by rw [← r.length]; omega), ws[i]'(by rw [← r'.length]; omega), st h ρ1 H1 l, st h' ρ1 H1 l, by simp, by simp⟩
  · rw [zipped_length]
    refine ⟨vs, ws, st h ρ1 H1 l, st h' ρ1 H1 l, ?_⟩
    rw [← r.length, ← r'.length]
    omega
  · obtain ⟨T, u, w, e1, hT, e2, h1, h2⟩ := y
    subst e1 e2
    obtain ⟨d, d1, d2⟩ := (r.ke k).getV (h1 vs (st h ρ1 _ l))
    obtain ⟨e, e1, e2⟩ := (r'.ke k).getV (h2 ws (st h' ρ1 _ l))
    obtain ⟨a1, a2, a3⟩ := pair_newD s hT d2 e2
    exact ⟨_, zipped_get d1 e1, a1, a2, a3⟩
theorem it_zipL {a b : Addr} {vs ws : List V} {xs ys : List D} (n : a ∉ ρ.lk) (n' : b ∉ ρ.lk) (h : Rd H a (.lst vs)) (h' : Rd H b (.lst ws)) (r : Rps g ρ H xs vs) (r' : Rps g ρ H ys ws) : ItOk g ρ H (Itz X.K a b) (zipped xs ys) := by
  refine ⟨fun i ρ1 H1 hi l => ?_, fun ρ1 H1 l => ?_, fun i ρ1 κ H1 sto x H2 hi l k s y => ?_⟩
  · rw [zipped_length] at hi
    exact ⟨vs, ws, vs[i]'(by rw [← r.length]; omega), ws[i]'(by rw [← r'.length]; omega), .inl (l.keep a _ h n rfl), .inl (l.keep b _ h' n' rfl), by simp, by simp⟩
  · rw [zipped_length]
    refine ⟨vs, ws, .inl (l.keep a _ h n rfl), .inl (l.keep b _ h' n' rfl), ?_⟩
    rw [← r.length, ← r'.length]
    omega
  · obtain ⟨T, u, w, e1, hT, e2, h1, h2⟩ := y
    subst e1 e2
    obtain ⟨d, d1, d2⟩ := (r.ke k).getV (h1 vs (.inl (l.keep a _ h n rfl)))
    obtain ⟨e, e1, e2⟩ := (r'.ke k).getV (h2 ws (.inl (l.keep b _ h' n' rfl)))
    obtain ⟨a1, a2, a3⟩ := pair_newD s hT d2 e2
    exact ⟨_, zipped_get d1 e1, a1, a2, a3⟩
def zipOf : List D → Option (List D)
  | [.tup xs, .tup ys] => some (zipped xs ys)
  | [.lst xs, .lst ys] => some (zipped xs ys)
  | _ => none
def fZip (fa : FA) : FI := fun σ st => (fa σ st).bind fun ds st1 => R.of ((zipOf ds).map fun xs => (xs, st1))
theorem si_zip {a b : Expr} {fa : FA} {p pos tpos : Pos} {elts : List Expr} {kk : Nat} (ha : SA g E X [a, b] fa) (hg : Gl X "zip") (hm : X.mg "zip" = none) (hs : starEach [a, b] X.env = (false, eval a X.env) :: starEach [b] X.env := by rfl) (hpl : (backTo pos (starEach [b] X.env)).any (·.1) = false := by rfl) :
    SI g E X (.Tuple elts kk tpos) (.Call (.Name "zip" p) [a, b] [] pos) (fZip fa) := .mk fun hK tk => by
  refine ⟨_, RZ.pi_zipA hg hm (pa_mx (es := [a, b])) hs hpl, fun σ st σV H ρ Q er sr h => ha hK tk σ st σV H ρ _ er sr (OkI.bindA h fun ds st1 vs H1 ρ1 l1 s1 r1 h1 => ?_)⟩
  unfold zipOf at h1
  split at h1
  · obtain ⟨v, w, e, q1, q2⟩ := r1.un2
    obtain ⟨a1, ws1, e1, t1, z1⟩ := q1
    obtain ⟨a2, ws2, e2, t2, z2⟩ := q2
    subst e e1 e2
    refine ⟨a1, a2, ws1, ws2, rfl, .inr ⟨?_, ?_, ?_⟩⟩
    · rw [hK]; exact t1.imp (fun z => z.2) id
    · rw [hK]; exact t2.imp (fun z => z.2) id
    · rw [hK]; exact h1 _ H1 ρ1 (Le.refl _ _) s1 (it_zipT t1 t2 z1 z2)
  · obtain ⟨v, w, e, q1, q2⟩ := r1.un2
    obtain ⟨a1, ws1, e1, t1, z1⟩ := q1
    obtain ⟨a2, ws2, e2, t2, z2⟩ := q2
    subst e e1 e2
    exact ⟨a1, a2, ws1, ws2, rfl, .inl ⟨.inl t1.2, .inl t2.2, h1 _ H1 ρ1 (Le.refl _ _) s1 (it_zipL t1.1.1 t2.1.1 t1.2 t2.2 z1 z2)⟩⟩
  · exact h1.elim
/-! ### xs.extend(ys) -/
def rExtD (K : PySem.W.Frag) : V → List V → Hp → VK → Prop := fun x vs H Q => ∃ l b xs zs, x = .ref l ∧ vs = [.ref b] ∧ H l = some (.lst xs) ∧ (SqL K H b zs ∨ SqT K H b zs) ∧ xs.length + zs.length ≤ sizeLine ∧ Q .non (upd H l (.lst (xs ++ zs)))
theorem mt_extD : MtR X "list.extend" (rExtD X.K) := by
  intro pins s σ H x vs v us Q I rx rv h
  obtain ⟨l, b, xs, zs, rfl, rfl, hH, hB, hz, q⟩ := h
  cases rx
  obtain ⟨u, rfl, ru⟩ := rv.one
  cases ru
  obtain ⟨z, its, n, r, hl, e⟩ := I.lstM hH
  obtain ⟨T, o2, its2, n2, hT, r2, e2, hc2, hd2⟩ : ∃ (T : String) (o2 : Obj) (its2 : List Value) (n2 : Nat), (T = "list" ∨ T = "tuple") ∧ Vals zs its2 ∧ s.heap.get? b = some o2 ∧ o2.cls = .type T ∧ o2.data = .seq its2.toArray n2 := by
    rcases hB with hB | hB
    · obtain ⟨its2, r2, pl, _⟩ := I.list hB
      obtain ⟨o, e, c, m, d⟩ := pl.isList
      exact ⟨"list", o, its2, m, .inl rfl, r2, e, c, d⟩
    · obtain ⟨its2, r2, pl, _⟩ := I.tuple hB
      obtain ⟨o, e, c, m, d⟩ := pl
      exact ⟨"tuple", o, its2, m, .inr rfl, r2, e, c, d⟩
  have hl2 := r2.length
  have hsz : its.toArray.size + its2.toArray.size ≤ sizeLine := by rw [List.size_toArray, List.size_toArray]; omega
  have hlong : (!its.toArray.isEmpty && Builtin.List.listTooLong (its.toArray.size + its2.toArray.size)) = false := by rw [notLongL hsz, Bool.and_false]
  refine wpAny_call_entry F.slot_list_extend ⟨_, e, rfl⟩ F.entry_list_extend ?_ (F.args_list_extend_2 _ _)
  show wpAny _ _ (Builtin.List.listExtendWith (.ref l) (.ref b) .none) _ _ _
  unfold Builtin.List.listExtendWith
  refine wpAny_bind (wpAny_typeOf ⟨o2, e2, hc2⟩ ?_)
  have h1 : (Builtin.List.listSameRef (.ref l) (.ref b) || Value.type T == Value.type "list" || Value.type T == Value.type "tuple") = true := by
    rcases hT with rfl | rfl <;> simp
  simp only [h1, if_true]
  refine wpAny_bind ?_
  unfold Builtin.List.listItems
  refine wpAny_bind (wpAny_seqItems e2 hd2 (wpAny_pure ?_))
  refine wpAny_bind ?_
  refine wpAny_bind (wpAny_seqItems e rfl (wpAny_pure ?_))
  have hz' : (its.toArray ++ its2.toArray).size ≤ sizeLine + 1 := by rw [Array.size_append]; omega
  have fin : ∀ {R : PySem.Fin → Shared → Prop} {E' : Value → Shared → Prop}, R (.done (.ret .none)) { s with heap := s.heap.update l (Obj.mapSeq (· ++ its2.toArray)) } → wpAny (model X.prog X.w) X.A.in1 (updateSeq l (· ++ its2.toArray) >>= fun _ => ret Value.none) R E' s := fun hR =>
    wpAny_bind (wpAny_updateSeq e rfl (hz := by rw [List.size_toArray]; omega) (_hz' := hz') (wpAny_pure hR))
  simp only [hlong, Bool.false_eq_true, if_false]
  refine fin ⟨.none, rfl, .non, _, I.lset (its' := its ++ its2) hH e (by simp) (r.append r2) ?_, rfl, q⟩
  rw [List.length_append]
  omega
def dExtend (x : D) (xs : List D) (st : Store) : Option (D × Store) := match x, xs with
  | .loc n, [d] => match st[n]? with
    | some (.lst ys) => (seqOf st d).bind fun zs => if small (ys.length + zs.length) then some (.non, st.set n (.lst (ys ++ zs))) else none
    | _ => none
  | _, _ => none
theorem sm_extend (hK : X.K = g.K) : SM g X (rExtD X.K) dExtend := by
  intro x xs z st st' ρ H v vs Q sr r rs h q
  unfold dExtend at h
  split at h
  · rename_i n d
    cases hc : st[n]? with
    | none => rw [hc] at h; cases h
    | some c =>
      rw [hc] at h
      cases c with
      | lst ys =>
        simp only [Option.bind_eq_some_iff] at h
        obtain ⟨zs, h1, h2⟩ := h
        obtain ⟨h4, h5⟩ := if_some h2
        cases h5
        obtain ⟨a, us, e, hn, ha, s⟩ := cell_lst sr r hc
        obtain ⟨w, e1, r1⟩ := rs.un1
        obtain ⟨b, ws, e2, t, s2⟩ := seqOf_ok hK sr r1 h1
        obtain ⟨s', l'⟩ := sr.setLst hn ha (s.append s2)
        exact ⟨a, b, us, ws, e, by rw [e1, e2], ha, t, by rw [← s.length, ← s2.length]; exact small_le h4, q _ _ ρ l' s' rfl⟩
      | dic _ _ => cases h
      | ins _ _ _ => cases h
  · cases h
/-! ### xs.pop(), xs.pop(i) -/
def dPop (x : D) (xs : List D) (st : Store) : Option (D × Store) := match x, xs with
  | .loc n, [] => match st[n]? with
    | some (.lst ys) => (ys[ys.length - 1]?).map fun d => (d, st.set n (.lst ys.dropLast))
    | _ => none
  | .loc n, [.int i] => match st[n]? with
    | some (.lst ys) => if 0 ≤ i ∧ i < 1000 then (ys[i.toNat]?).map fun d => (d, st.set n (.lst (ys.eraseIdx i.toNat))) else none
    | _ => none
  | _, _ => none
theorem Rps.dropLast {ds : List D} {vs : List V} (h : Rps g ρ H ds vs) : Rps g ρ H ds.dropLast vs.dropLast := by
  rw [List.dropLast_eq_take, List.dropLast_eq_take, h.length]
  exact h.take _
theorem Rps.eraseIdx : ∀ {ds : List D} {vs : List V} (i : Nat), Rps g ρ H ds vs → Rps g ρ H (ds.eraseIdx i) (vs.eraseIdx i)
  | [], vs, i, h => by
    have e : vs = [] := h
    rw [e]
    exact rfl
  | d :: ds, vs, 0, h => by
    obtain ⟨v, r, e, h1, h2⟩ := h
    subst e
    exact h2
  | d :: ds, vs, i + 1, h => by
    obtain ⟨v, r, e, h1, h2⟩ := h
    subst e
    exact ⟨v, _, rfl, h1, Rps.eraseIdx i h2⟩
theorem sm_pop : SM g X (fun x xs H Q => rPop x xs H Q ∨ rPopAt x xs H Q) dPop := by
  intro x xs z st st' ρ H v vs Q sr r rs h q
  unfold dPop at h
  split at h
  · rename_i n
    cases hc : st[n]? with
    | none => rw [hc] at h; cases h
    | some c =>
      rw [hc] at h
      cases c with
      | lst ys =>
        simp only [Option.map_eq_some_iff] at h
        obtain ⟨d, h1, h2⟩ := h
        cases h2
        obtain ⟨a, us, e, hn, ha, s⟩ := cell_lst sr r hc
        obtain ⟨u, hu, ru⟩ := s.get h1
        obtain ⟨s', l'⟩ := sr.setLst hn ha s.dropLast
        exact .inl ⟨a, us, u, e, rs, ha, by rw [← s.length]; exact hu, q _ _ ρ l' s' (ru.mono l')⟩
      | dic _ _ => cases h
      | ins _ _ _ => cases h
  · rename_i n i
    cases hc : st[n]? with
    | none => rw [hc] at h; cases h
    | some c =>
      rw [hc] at h
      cases c with
      | lst ys =>
        have h : (if 0 ≤ i ∧ i < 1000 then (ys[i.toNat]?).map fun d => (d, st.set n (.lst (ys.eraseIdx i.toNat))) else none) = some (z, st') := h
        by_cases hi : 0 ≤ i ∧ i < 1000
        · rw [if_pos hi, Option.map_eq_some_iff] at h
          obtain ⟨d, h1, h2⟩ := h
          cases h2
          obtain ⟨a, us, e, hn, ha, s⟩ := cell_lst sr r hc
          obtain ⟨u, hu, ru⟩ := s.get h1
          obtain ⟨w, e1, r1⟩ := rs.un1
          obtain ⟨s', l'⟩ := sr.setLst hn ha (s.eraseIdx i.toNat)
          have hlt : i.toNat < us.length := (List.getElem?_eq_some_iff.mp hu).1
          refine .inr ⟨a, us, i, i.toNat, u, e, by rw [e1, show w = _ from r1], ha, by omega, by omega, ?_, hu, q _ _ ρ l' s' (ru.mono l')⟩
          unfold seqIndex?
          simp
          omega
        · rw [if_neg hi] at h; cases h
      | dic _ _ => cases h
      | ins _ _ _ => cases h
  · cases h
end Hw
/-! HwV: methods of texts; slices backward; dicts displayed, asked with a default, walked by keys. -/
namespace Hw
open PySem PySem.Spec PyProof.Rows L2
variable {g : G} {ρ ρ' ρ'' : Pl} {H H' H'' : Hp} {E : XK} {X : Cx}
/-! ### methods of texts -/
def dFind (x : D) (xs : List D) (st : Store) : Option (D × Store) := match x, xs with
  | .str s, [.str t] => some (.int (Txt.find s t), st)
  | .str s, [.str t, .int i] => some (.int (Txt.find3 s t i), st)
  | _, _ => none
def rFind : V → List V → Hp → VK → Prop := fun x xs H Q => (∃ a b, x = V.str a ∧ xs = [.str b] ∧ Q (.int (Txt.find a b)) H) ∨ ∃ (a b : Str) (i : Int), x = V.str a ∧ xs = [.str b, .int i] ∧ Q (.int (Txt.find3 a b i)) H
theorem mt_findA : MtR X "str.find" rFind := fun pins s σ H x xs v us Q I rx rs h => h.elim (mt_find pins s σ H x xs v us Q I rx rs) (mt_find3 pins s σ H x xs v us Q I rx rs)
theorem sm_find : SM g X rFind dFind := by
  intro x xs z st st' ρ H v vs Q sr r rs h q
  unfold dFind at h
  split at h
  · cases h
    obtain ⟨w, e, r1⟩ := rs.un1
    exact .inl ⟨_, _, r, by rw [e, show w = _ from r1], q _ H ρ (Le.refl _ _) sr rfl⟩
  · cases h
    obtain ⟨w, u, e, r1, r2⟩ := rs.un2
    exact .inr ⟨_, _, _, r, by rw [e, show w = _ from r1, show u = _ from r2], q _ H ρ (Le.refl _ _) sr rfl⟩
  · cases h
def dSplit (x : D) (xs : List D) (st : Store) : Option (D × Store) := match x, xs with
  | .str s, [.str t] => if small s.length && !(t.length == 0) then some (.lst ((Txt.split s t).map D.str), st) else none
  | _, _ => none
theorem sm_split : SM g X (fun x xs H Q => ∃ a b, x = V.str a ∧ xs = [.str b] ∧ (b.length == 0) = false ∧ a.length + 2 ≤ sizeLine ∧ rNewStrs (Txt.split a b) H Q) dSplit := by
  intro x xs z st st' ρ H v vs Q sr r rs h q
  unfold dSplit at h
  split at h
  · obtain ⟨h4, h5⟩ := if_some h
    cases h5
    simp only [Bool.and_eq_true, Bool.not_eq_true'] at h4
    obtain ⟨w, e, r1⟩ := rs.un1
    have hz := of_decide_eq_true h4.1
    refine ⟨_, _, r, by rw [e, show w = _ from r1], h4.2, by rw [sizeLine_eq]; omega, fun p hp => q _ _ ρ (sr.leLay hp) (sr.lay hp) (Rp.of_lst sr hp (Rps.of_strs _))⟩
  · cases h
def dPartition (x : D) (xs : List D) (st : Store) : Option (D × Store) := match x, xs with
  | .str s, [.str t] => if small s.length && !(t.length == 0) then some (.tup [.str (Txt.partition s t).1, .str (Txt.partition s t).2.1, .str (Txt.partition s t).2.2], st) else none
  | _, _ => none
theorem sm_partition : SM g X (fun x xs H Q => ∃ a b, x = V.str a ∧ xs = [.str b] ∧ (b.length == 0) = false ∧ a.length ≤ sizeLine ∧
    ∀ p, H p = none → Q (.ref p) (upd H p (.tup [.str (Txt.partition a b).1, .str (Txt.partition a b).2.1, .str (Txt.partition a b).2.2]))) dPartition := by
  intro x xs z st st' ρ H v vs Q sr r rs h q
  unfold dPartition at h
  split at h
  · obtain ⟨h4, h5⟩ := if_some h
    cases h5
    simp only [Bool.and_eq_true, Bool.not_eq_true'] at h4
    obtain ⟨w, e, r1⟩ := rs.un1
    refine ⟨_, _, r, by rw [e, show w = _ from r1], h4.2, small_le h4.1, fun p hp => q _ _ ρ (sr.leLay hp) (sr.lay hp) (Rp.of_tup sr hp ⟨_, _, rfl, rfl, _, _, rfl, rfl, _, _, rfl, rfl, rfl⟩)⟩
  · cases h
def dStartswith (x : D) (xs : List D) (st : Store) : Option (D × Store) := match x, xs with
  | .str s, [.str t] => some (.bl (Txt.startswith s t), st)
  | _, _ => none
theorem sm_startswith : SM g X (fun x xs H Q => ∃ a b, x = V.str a ∧ xs = [.str b] ∧ Q (.bl (Txt.startswith a b)) H) dStartswith := by
  intro x xs z st st' ρ H v vs Q sr r rs h q
  unfold dStartswith at h
  split at h
  · cases h
    obtain ⟨w, e, r1⟩ := rs.un1
    exact ⟨_, _, r, by rw [e, show w = _ from r1], q _ H ρ (Le.refl _ _) sr rfl⟩
  · cases h
def dIsalpha (x : D) (xs : List D) (st : Store) : Option (D × Store) := match x, xs with
  | .str s, [] => some (.bl (Txt.isalpha s), st)
  | _, _ => none
theorem sm_isalpha : SM g X (fun x xs H Q => ∃ a, x = V.str a ∧ xs = [] ∧ True ∧ Q (.bl (Txt.isalpha a)) H) dIsalpha := by
  intro x xs z st st' ρ H v vs Q sr r rs h q
  unfold dIsalpha at h
  split at h
  · cases h
    exact ⟨_, r, rs, trivial, q _ H ρ (Le.refl _ _) sr rfl⟩
  · cases h
def dIsdigit (x : D) (xs : List D) (st : Store) : Option (D × Store) := match x, xs with
  | .str s, [] => some (.bl (Txt.isdigit s), st)
  | _, _ => none
theorem sm_isdigit : SM g X (fun x xs H Q => ∃ a, x = V.str a ∧ xs = [] ∧ True ∧ Q (.bl (Txt.isdigit a)) H) dIsdigit := by
  intro x xs z st st' ρ H v vs Q sr r rs h q
  unfold dIsdigit at h
  split at h
  · cases h
    exact ⟨_, r, rs, trivial, q _ H ρ (Le.refl _ _) sr rfl⟩
  · cases h
/-! ### a thing that is being made, of any kind -/
theorem SR.hideO {st : Store} {o : HO} (ho : ∀ ps, o ≠ .tbl ps) (s : SR g ρ st H) {p : Addr} (hp : H p = none) : SR g (ρ.hide p) st (upd H p o) :=
  ⟨s.len, s.nd, fun a ha z => (List.mem_cons.mp ha).elim (fun e => s.notin hp (by rw [← e]; exact z)) fun h => s.hid a h z, fun a ha => (List.mem_cons.mp ha).elim (fun e => by rw [e]; exact Has.set ho) fun h => (s.hidT a h).new hp,
    fun n c h => by
      obtain ⟨a, e, q⟩ := s.cell n c h
      exact ⟨a, e, q.ke (ke_hide hp) (upd_ne fun z => s.notin hp (by rw [← z]; exact List.mem_of_getElem? e))⟩, Tabs_upd s.tabs hp⟩
theorem SR.writeHidO {st : Store} {o : HO} (ho : ∀ ps, o ≠ .tbl ps) (s : SR g ρ st H) {p : Addr} {u : HO} (hx : p ∈ ρ.ex) (hp : H p = some u) (n1 : ∀ ps, u ≠ .tbl ps) (n2 : ∀ c q, u ≠ LamX.CodeO c q) : SR g ρ st (upd H p o) :=
  ⟨s.len, s.nd, s.hid, fun a h => (s.hidT a h).ov ho, fun n c h => by
    obtain ⟨a, e, q⟩ := s.cell n c h
    exact ⟨a, e, q.ke (ke_hid hx) (upd_ne fun z => s.hid p hx (by rw [← z]; exact List.mem_of_getElem? e))⟩, Tabs_write s.tabs hp n1 n2⟩
/-- out of hiding: as a live cell -/
theorem SR.showL {st st1 : Store} {ρ1 : Pl} {H1 : Hp} {p : Addr} {c : Cell} (s1 : SR g ρ1 st1 H1) (hp : H1 p = none) (l : Le ρ1 H1 ρ' H') (s : SR g (ρ'.hide p) st H') (hc : CellAt g (ρ'.hide p) H' p c) :
    Le ρ1 H1 (ρ'.push p) H' ∧ SR g (ρ'.push p) (st ++ [c]) H' ∧ Rp g (ρ'.push p) H' (.loc st.length) (.ref p) := by
  have np : p ∉ ρ'.lk := s.hid p List.mem_cons_self
  have k : Ke (ρ'.hide p) H' (ρ'.push p) H' := ⟨fun n a h => by
    have h : ρ'.lk[n]? = some a := h
    show (ρ'.lk ++ [p])[n]? = some a
    rw [List.getElem?_append_left (List.getElem?_eq_some_iff.mp h).1]
    exact h, fun a u n q h => ⟨⟨fun z => (List.mem_append.mp z).elim n.1 fun z => n.2 (by rw [List.mem_singleton.mp z]; exact List.mem_cons_self), fun z => n.2 (List.mem_cons_of_mem _ z)⟩, h⟩⟩
  refine ⟨⟨?_, l.hid, l.keep, l.hidk, l.dom, l.fz⟩, ⟨?_, ?_, ?_, fun a ha => s.hidT a (List.mem_cons_of_mem _ ha), fun n c' hc' => ?_, s.tabs⟩, p, rfl, ?_⟩
  · obtain ⟨t, e, f⟩ := l.pre
    refine ⟨t ++ [p], by show ρ'.lk ++ [p] = _; rw [e, List.append_assoc], fun a ha => ?_⟩
    rcases List.mem_append.mp ha with z | z
    · exact f a z
    · rw [List.mem_singleton.mp z]; exact Has.no hp
  · show (ρ'.lk ++ [p]).length = _
    rw [List.length_append, List.length_append, show ρ'.lk.length = st.length from s.len] <;> rfl
  · refine List.nodup_append.mpr ⟨s.nd, List.nodup_cons.mpr ⟨by simp, List.nodup_nil⟩, fun a ha b hb e => ?_⟩
    rw [List.mem_singleton.mp hb] at e
    rw [e] at ha
    exact np ha
  · intro a ha z
    rcases List.mem_append.mp z with z | z
    · exact s.hid a (List.mem_cons_of_mem _ ha) z
    · rw [List.mem_singleton.mp z] at ha
      have ha : p ∈ ρ'.ex := ha
      rw [l.hid] at ha
      exact Has.no hp (s1.hidT p ha)
  · by_cases hn : n < st.length
    · rw [List.getElem?_append_left hn] at hc'
      obtain ⟨a, e, q⟩ := s.cell n c' hc'
      exact ⟨a, k.get n a e, q.ke k rfl⟩
    · rw [List.getElem?_append_right (by omega)] at hc'
      have hn2 : n - st.length = 0 := by
        cases e : n - st.length with
        | zero => rfl
        | succ m => rw [e] at hc'; simp at hc'
      rw [hn2] at hc'
      have hc2 : c = c' := by simpa using hc'
      subst hc2
      refine ⟨p, ?_, hc.ke k rfl⟩
      show (ρ'.lk ++ [p])[n]? = some p
      rw [List.getElem?_append_right (by rw [show ρ'.lk.length = st.length from s.len]; omega), show ρ'.lk.length = st.length from s.len, hn2] <;> rfl
  · show (ρ'.lk ++ [p])[st.length]? = some p
    rw [← show ρ'.lk.length = st.length from s.len, List.getElem?_append_right (Nat.le_refl _), Nat.sub_self] <;> rfl
/-- what stands outside of a thing that is being made -/
theorem le_out {κ : Pl} {Hx Hy : Hp} {κ'' : Pl} {p : Addr} (hp : H p = none) (l : Le ρ H κ Hx) (l2 : Le (κ.hide p) Hx κ'' Hy) : Le ρ H ⟨κ''.lk, ρ.ex⟩ Hy ∧ κ'' = (⟨κ''.lk, ρ.ex⟩ : Pl).hide p := by
  obtain ⟨t1, e1, f1⟩ := l.pre
  obtain ⟨t2, e2, f2⟩ := l2.pre
  refine ⟨⟨⟨t1 ++ t2, by show κ''.lk = _; rw [e2]; show κ.lk ++ t2 = _; rw [e1, List.append_assoc], fun a ha => ?_⟩, rfl, fun a u h n q => ?_, fun a ha => ?_, fun a h => l2.dom a (l.dom a h), fun a o u h => l2.fz a o u (l.fz a o u h)⟩, ?_⟩
  · rcases List.mem_append.mp ha with z | z
    · exact f1 a z
    · exact fun h => f2 a z (l.dom a h)
  · refine l2.keep a u (l.keep a u h n q) (fun z => ?_) q
    have z : a ∈ κ.lk := z
    rw [e1] at z
    rcases List.mem_append.mp z with z | z
    · exact n z
    · exact f1 a z (Has.rd h q)
  · exact (l2.hidk a (List.mem_cons_of_mem _ (by rw [l.hid]; exact ha))).trans (l.hidk a ha)
  · have := l2.hid
    cases κ'' with
    | mk lk ex =>
      have this : ex = p :: κ.ex := this
      rw [this, l.hid] <;> rfl
/-! ### {k: v, ..} -/
def kvz : List Key → List V → List (V × V)
  | k :: ks, v :: vs => (kV k, v) :: kvz ks vs
  | _, _ => []
structure SDi (g : G) (E : XK) (X : Cx) (pos : Pos) (keys : List (Option Expr)) (values : List Expr) (ks : List Key) (fa : FA) : Prop where
  run : X.K = g.K → Tk X E → ∃ trs, PPs X pos keys values trs ∧ ∀ (σ : Env) (st : Store) (σV : L2.St) (H : Hp) (ρ : Pl) (Q : List (V × V) → Hp → Prop), ER g ρ H σ σV → SR g ρ st H → OkA g ρ H E (fun vs H' => Q (kvz ks vs) H') (fa σ st) → tPairs trs σV H Q
theorem sd_nil {pos : Pos} : SDi g E X pos [] [] [] fNil := .mk fun hK tk => ⟨[], pps_nil, fun σ st σV H ρ Q er sr h => h [] H ρ (Le.refl _ _) sr rfl⟩
theorem sd_cons {pos : Pos} {k v : Expr} {keys : List (Option Expr)} {values : List Expr} {j : Key} {ks : List Key} {f : FE} {fa : FA} (hk : PE X k (tC (kV j))) (hv : SE g E X v f) (hr : SDi g E X pos keys values ks fa) : SDi g E X pos (some k :: keys) (v :: values) (j :: ks) (fCons f fa) := .mk fun hK tk => by
  obtain ⟨trs, hp, hq⟩ := hr.run hK tk
  refine ⟨_, pps_cons hk (pe_mx (e := v)) hp, fun σ st σV H ρ Q er sr h => ?_⟩
  refine hv hK tk σ st σV H ρ _ er sr (OkA.bind h fun d st1 v H1 ρ1 l1 s1 r1 h1 => ?_)
  exact hq σ st1 σV H1 ρ1 (fun ps H2 => Q ((kV j, v) :: ps) H2) (er.mono l1) s1 (OkA.bindA h1 fun ds st2 vs H2 ρ2 l2 s2 r2 h2 => h2 (v :: vs) H2 ρ2 (Le.refl _ _) s2 ⟨v, vs, rfl, r1.mono l2, r2⟩)
theorem kvz_eq : ∀ {ks : List Key} {vs : List V}, vs.length = ks.length → kvz ks vs = (ks.zip vs).map fun kv => (kV kv.1, kv.2)
  | [], [], _ => rfl
  | k :: ks, v :: vs, h => by rw [kvz, kvz_eq (by simpa using h)] <;> rfl
  | [], _ :: _, h => by cases h
  | _ :: _, [], h => by cases h
def dispD (ks : List Key) (ds : List D) : List Key × List D := mergeD (ks.zip ds) ([], [])
def fDic (ks : List Key) (fa : FA) : FE := fun σ st => (fa σ st).nox.bind fun ds st1 => if ds.length = ks.length then .ok (.dic (dispD ks ds).1 (dispD ks ds).2) st1 else .stk
def fDicM (ks : List Key) (fa : FA) : FE := fun σ st => (fa σ st).nox.bind fun ds st1 => if ds.length = ks.length then .ok (.loc st1.length) (st1 ++ [.dic (dispD ks ds).1 (dispD ks ds).2]) else .stk
theorem disp_of {ks : List Key} {fa : FA} {trs : List (TE × TE)} {σ : Env} {st : Store} {σV : L2.St} {Q : VK} {kf : List D → Store → R D}
    (hq : ∀ (σ : Env) (st : Store) (σV : L2.St) (H : Hp) (ρ : Pl) (Q : List (V × V) → Hp → Prop), ER g ρ H σ σV → SR g ρ st H → OkA g ρ H E (fun vs H' => Q (kvz ks vs) H') (fa σ st) → tPairs trs σV H Q)
    (er : ER g ρ H σ σV) (sr : SR g ρ st H) (h15 : ks.length ≤ 15)
    (h : Ok1 g ρ H E Q ((fa σ st).nox.bind fun ds st1 => if ds.length = ks.length then kf ds st1 else .stk))
    (fin : ∀ (ds : List D) (st2 : Store) (p : Addr) (kvs : List (Key × V)) (H' : Hp) (ρ' : Pl), Ok1 g ρ H E Q (kf ds st2) → H p = none → Le ρ H ρ' H' → SR g (ρ'.hide p) st2 H' → H' p = some (.dK kvs) → kvs.map (·.1) = (dispD ks ds).1 → Rps g (ρ'.hide p) H' (dispD ks ds).2 (kvs.map (·.2)) → Q (.ref p) H') : tDisp trs σV H Q := by
  intro p hp
  refine hq σ st σV _ (ρ.hide p) _ (er.ke (ke_hide hp)) (sr.hideO dK_tbl hp) ?_
  cases e1 : fa σ st with
  | stk => rw [e1] at h; exact h.elim
  | exc c st' => rw [e1] at h; exact h.elim
  | ok ds st2 =>
    rw [e1] at h
    have h : Ok1 g ρ H E Q (if ds.length = ks.length then kf ds st2 else .stk) := h
    intro vs H' ρ' l s r
    by_cases hl : ds.length = ks.length
    · rw [if_pos hl] at h
      obtain ⟨o1, o2⟩ := le_out hp (sr.leLay hp) l
      have hpv : H' p = some (.dK []) := (l.hidk p List.mem_cons_self).trans upd_same
      have hvl : vs.length = ks.length := by rw [← r.length, hl]
      have em : ((ks.zip vs).map (·.1)) = (ks.zip ds).map (·.1) := by
        rw [List.map_fst_zip (by omega), List.map_fst_zip (by omega)]
      have es : (ks.zip vs).map (·.2) = vs := List.map_snd_zip (by omega)
      have es2 : (ks.zip ds).map (·.2) = ds := List.map_snd_zip (by omega)
      obtain ⟨m1, m2⟩ := mergeD_ok (g := g) (ρ := ρ') (H := H') (more := ks.zip vs) (kds := ks.zip ds) (kvs := []) (xs := []) rfl em (by rw [es, es2]; exact r)
      refine ⟨hpv, ks.zip vs, kvz_eq hvl, by rw [List.length_zip]; omega, ?_⟩
      have hx : p ∈ ρ'.ex := by rw [l.hid]; exact List.mem_cons_self
      have s' := s.writeHidO (o := .dK (mergeK [] (ks.zip vs))) dK_tbl hx hpv dK_tbl dK_code
      rw [o2] at s' m2 hx
      refine fin ds st2 p (mergeK [] (ks.zip vs)) _ ⟨ρ'.lk, ρ.ex⟩ h hp ?_ s' upd_same m1 (m2.ke (ke_hid hx))
      refine ⟨o1.pre, o1.hid, fun a u h n q => rd_ne (fun e => ?_) (o1.keep a u h n q), fun a ha => (upd_ne fun e => ?_).trans (o1.hidk a ha), fun a h => (o1.dom a h).ov dK_tbl, fun a o u h => (upd_ne fun e => by rw [e, hp] at h; cases h).trans (o1.fz a o u h)⟩
      · rcases h with h | ⟨b, h⟩ <;> rw [e, hp] at h <;> cases h
      · rw [e] at ha
        exact Has.no hp (sr.hidT p ha)
    · rw [if_neg hl] at h; exact h.elim
section
variable {pos : Pos} {keys : List (Option Expr)} {values : List Expr} {ks : List Key} {fa : FA}
theorem se_dic (hs : SDi g E X pos keys values ks fa) (hall : keys.all (·.isSome) = true := by rfl) (hl : keys.length = values.length := by rfl) (h0 : keys ≠ [] := by exact List.cons_ne_nil _ _) (h15 : keys.length ≤ 15 := by decide) (h16 : ks.length ≤ 15 := by decide) :
    SE g E X (.Dict keys values pos) (fDic ks fa) := .mk fun hK tk σ st σV H ρ Q er sr h => by
  obtain ⟨trs, hp, hq⟩ := hs.run hK tk
  exact mx_of (pe_disp hp hall hl h0 h15) (disp_of hq er sr h16 h fun ds st2 p kvs H' ρ' h hp l s hpv e1 r => h _ H' ρ' l s.unhide ⟨p, kvs, rfl, ⟨s.hid p List.mem_cons_self, fun z => Has.no hp (sr.hidT p (by rw [← l.hid]; exact z))⟩, .inl hpv, e1, r.ke ke_show⟩)
theorem se_dicM (hs : SDi g E X pos keys values ks fa) (hall : keys.all (·.isSome) = true := by rfl) (hl : keys.length = values.length := by rfl) (h0 : keys ≠ [] := by exact List.cons_ne_nil _ _) (h15 : keys.length ≤ 15 := by decide) (h16 : ks.length ≤ 15 := by decide) :
    SE g E X (.Dict keys values pos) (fDicM ks fa) := .mk fun hK tk σ st σV H ρ Q er sr h => by
  obtain ⟨trs, hp, hq⟩ := hs.run hK tk
  exact mx_of (pe_disp hp hall hl h0 h15) (disp_of hq er sr h16 h fun ds st2 p kvs H' ρ' h hp l s hpv e1 r => by
    obtain ⟨a, b, c⟩ := sr.showL (c := .dic (dispD ks ds).1 (dispD ks ds).2) hp l s ⟨kvs, hpv, e1, r⟩
    exact h _ H' _ a b c)
end
/-! ### d.get(k, x) -/
def fGet2 (f k m : FE) : FE := fun σ st => (f σ st).bind fun d st1 => if (dicOf st1 d).isSome then (k σ st1).bind fun y st2 => (m σ st2).bind fun z st3 => match dicOf st3 d, keyD y with
  | some p, some j => .ok ((valD p.1 p.2 j).getD z) st3
  | _, _ => .stk else .stk
theorem se_get2 {o e f : Expr} {apos cpos : Pos} {fo fe ff : FE} (hu : X.A.units + 65 < cLine) (ho : SE g E X o fo) (he : SE g E X e fe) (hf : SE g E X f ff) (m : M2 X o "get" apos e f cpos) : SE g E X (.Call (.Attribute o "get" apos) [e, f] [] cpos) (fGet2 fo fe ff) := .mk fun hK tk σ st σV H ρ Q er sr h =>
  mx_of (pe_dget2 (by omega) (pe_mx (e := o)) (pe_mx (e := e)) (pe_mx (e := f)) m) (ho hK tk σ st σV H ρ _ er sr (Ok1.bind h fun d st1 v H1 ρ1 l1 s1 r1 h1 => by
    cases hd : dicOf st1 d with
    | none => rw [hd] at h1; exact h1.elim
    | some p =>
      rw [hd] at h1
      obtain ⟨a, kvs, e1, q1, q2, q3⟩ := dicOf_ok s1 r1 hd
      refine ⟨a, e1, .inl ⟨kvs, q1⟩, he hK tk σ st1 σV H1 ρ1 _ (er.mono l1) s1 (Ok1.bind (by exact h1) fun y st2 w H2 ρ2 l2 s2 r2 h2 => hf hK tk σ st2 σV H2 ρ2 _ ((er.mono l1).mono l2) s2 (Ok1.bind h2 fun z st3 u H3 ρ3 l3 s3 r3 h3 => ?_))⟩
      cases hd3 : dicOf st3 d with
      | none => rw [hd3] at h3; exact h3.elim
      | some p3 =>
        cases hk : keyD y with
        | none => rw [hd3, hk] at h3; exact h3.elim
        | some j =>
          rw [hd3, hk] at h3
          have h3 : Ok1 g ρ3 H3 E Q (R.ok ((valD p3.1 p3.2 j).getD z) st3) := h3
          obtain ⟨a', o', e2, gt, hv⟩ := dget_ok s3 ((r1.mono l2).mono l3) (r2.mono l3) hd3 hk
          have ea : a' = a := by rw [e1] at e2; injection e2 with e2; exact e2.symm
          subst ea
          refine ⟨o', gt, ?_⟩
          cases hx : valD p3.1 p3.2 j with
          | none =>
            rw [hx] at hv h3
            rw [hv]
            exact h3 _ H3 ρ3 (Le.refl _ _) s3 r3
          | some d' =>
            rw [hx] at hv h3
            obtain ⟨u', e3, r4⟩ := hv
            rw [e3]
            exact h3 _ H3 ρ3 (Le.refl _ _) s3 r4))
end Hw
/-! HwW: a dict walked by its keys. -/
namespace Hw
open PySem PySem.Spec PyProof.Rows L2
variable {g : G} {ρ ρ' ρ'' : Pl} {H H' H'' : Hp} {E : XK} {X : Cx}
/-! ### under a lock -/
section
variable {a : Addr} {od : Obj} {kvs : List (Key × V)}
abbrev Lk (H : Hp) (a : Addr) (od : Obj) (kvs : List (Key × V)) : Hp := upd H a (.frz od (.dK kvs))
theorem frz_tbl {od : Obj} {u : HO} (ps : Array Value) : HO.frz od u ≠ .tbl ps := fun z => by cases z
theorem frz_code {od : Obj} {u : HO} (c : Addr) (q : Str) : HO.frz od u ≠ LamX.CodeO c q := fun z => by unfold LamX.CodeO at z; cases z
theorem le_lock (ha : H a = some (.dK kvs)) (n : ρ.out a) : Le ρ H ρ (Lk H a od kvs) :=
  ⟨⟨[], by simp, by simp⟩, rfl, fun b u h _ q => by
    by_cases e : b = a
    · subst e
      rcases h with h | ⟨o, h⟩
      · rw [ha] at h; cases h; exact .inr ⟨od, upd_same⟩
      · rw [ha] at h; cases h
    · exact rd_ne e h, fun b hb => upd_ne fun e => n.2 (by rw [← e]; exact hb), fun b h => h.ov frz_tbl, fun b o u h => (upd_ne fun e => by rw [e, ha] at h; cases h).trans h⟩
theorem SR.lock {st : Store} (s : SR g ρ st H) (ha : H a = some (.dK kvs)) (n : ρ.out a) : SR g ρ st (Lk H a od kvs) :=
  ⟨s.len, s.nd, s.hid, fun b h => (s.hidT b h).ov frz_tbl, fun i c h => by
    obtain ⟨b, e, q⟩ := s.cell i c h
    exact ⟨b, e, q.ke (le_lock ha n).ke (upd_ne fun z => n.1 (by rw [← z]; exact List.mem_of_getElem? e))⟩, Tabs_write s.tabs ha dK_tbl dK_code⟩
theorem ke_unlock (ha : H' a = some (.frz od (.dK kvs))) : Ke ρ' H' ρ' (upd H' a (.dK kvs)) := ⟨fun _ _ h => h, fun b u n q h => ⟨n, by
  by_cases e : b = a
  · subst e
    rcases h with h | ⟨o, h⟩
    · rw [ha] at h; cases h; cases q
    · rw [ha] at h; cases h; exact .inl upd_same
  · exact rd_ne e h⟩⟩
theorem SR.unlock {st : Store} (s : SR g ρ' st H') (ha : H' a = some (.frz od (.dK kvs))) (n : ρ'.out a) : SR g ρ' st (upd H' a (.dK kvs)) :=
  ⟨s.len, s.nd, s.hid, fun b h => (s.hidT b h).ov dK_tbl, fun i c h => by
    obtain ⟨b, e, q⟩ := s.cell i c h
    exact ⟨b, e, q.ke (ke_unlock ha) (upd_ne fun z => n.1 (by rw [← z]; exact List.mem_of_getElem? e))⟩, Tabs_write s.tabs ha frz_tbl frz_code⟩
theorem le_unlock (ha : H a = some (.dK kvs)) (n : ρ.out a) (l : Le ρ (Lk H a od kvs) ρ' H') : H' a = some (.frz od (.dK kvs)) ∧ ρ'.out a ∧ Le ρ H ρ' (upd H' a (.dK kvs)) := by
  have h' : H' a = some (.frz od (.dK kvs)) := l.fz a _ _ upd_same
  refine ⟨h', l.out (Has.set frz_tbl) n, ⟨?_, l.hid, fun b u h nb q => ?_, fun b hb => ?_, fun b h => (l.dom b (h.ov frz_tbl)).ov dK_tbl, fun b o u h => ?_⟩⟩
  · obtain ⟨t, e, f⟩ := l.pre
    exact ⟨t, e, fun b hb h => f b hb (h.ov frz_tbl)⟩
  · by_cases e : b = a
    · subst e
      rcases h with h | ⟨o, h⟩
      · rw [ha] at h; cases h; exact .inl upd_same
      · rw [ha] at h; cases h
    · exact rd_ne e (l.keep b u (rd_ne e h) nb q)
  · have ne : b ≠ a := fun e => n.2 (by rw [← e]; exact hb)
    exact (upd_ne ne).trans ((l.hidk b hb).trans (upd_ne ne))
  · have ne : b ≠ a := fun e => by rw [e, ha] at h; cases h
    exact (upd_ne ne).trans (l.fz b o u ((upd_ne ne).trans h))
/-- the wishes behind a lock -/
abbrev LkZ (Z : Ends) (a : Addr) (od : Obj) (kvs : List (Key × V)) : Ends := ⟨fun σ' H' => H' a = some (.frz od (.dK kvs)) ∧ Z.nx σ' (upd H' a (.dK kvs)), fun v H' => H' a = some (.frz od (.dK kvs)) ∧ Z.rt v (upd H' a (.dK kvs)),
  fun σ' H' => H' a = some (.frz od (.dK kvs)) ∧ Z.bk σ' (upd H' a (.dK kvs)), fun σ' H' => H' a = some (.frz od (.dK kvs)) ∧ Z.ct σ' (upd H' a (.dK kvs))⟩
theorem OkS.lock {Z : Ends} (ha : H a = some (.dK kvs)) (n : ρ.out a) : ∀ {r : F}, OkS g ρ H E Z r → OkS g ρ (Lk H a od kvs) E (LkZ Z a od kvs) r
  | .nx σ' st', h => fun σV H' ρ' l s er => by
    obtain ⟨h1, h2, h3⟩ := le_unlock ha n l
    exact ⟨h1, h σV _ ρ' h3 (s.unlock h1 h2) (er.ke (ke_unlock h1))⟩
  | .rt d st', h => fun v H' ρ' l s r => by
    obtain ⟨h1, h2, h3⟩ := le_unlock ha n l
    exact ⟨h1, h v _ ρ' h3 (s.unlock h1 h2) (r.ke (ke_unlock h1))⟩
  | .bk σ' st', h => fun σV H' ρ' l s er => by
    obtain ⟨h1, h2, h3⟩ := le_unlock ha n l
    exact ⟨h1, h σV _ ρ' h3 (s.unlock h1 h2) (er.ke (ke_unlock h1))⟩
  | .ct σ' st', h => fun σV H' ρ' l s er => by
    obtain ⟨h1, h2, h3⟩ := le_unlock ha n l
    exact ⟨h1, h σV _ ρ' h3 (s.unlock h1 h2) (er.ke (ke_unlock h1))⟩
  | .exc c st', h => fun H' ρ' l s => h H' ρ' ((le_lock ha n).trans l) s
  | .stk, h => h
theorem Ok1.lock {Q : VK} (ha : H a = some (.dK kvs)) (n : ρ.out a) : ∀ {r : R D}, Ok1 g ρ H E Q r → Ok1 g ρ (Lk H a od kvs) E (fun v H' => H' a = some (.frz od (.dK kvs)) ∧ Q v (upd H' a (.dK kvs))) r
  | .ok d st', h => fun v H' ρ' l s r => by
    obtain ⟨h1, h2, h3⟩ := le_unlock ha n l
    exact ⟨h1, h v _ ρ' h3 (s.unlock h1 h2) (r.ke (ke_unlock h1))⟩
  | .exc c st', h => fun H' ρ' l s => h H' ρ' ((le_lock ha n).trans l) s
  | .stk, h => h
end
/-! ### the walk -/
def keyVal : Key → D
  | .inl i => .int i
  | .inr s => .str s
theorem keyVal_ok (k : Key) : Rp g ρ H (keyVal k) (kV k) := by cases k <;> rfl
theorem it_keys {a : Addr} {o : Obj} {kvs : List (Key × V)} (h : H a = some (.frz o (.dK kvs))) : ItOk g ρ H (Itk a o kvs) ((kvs.map (·.1)).map keyVal) where
  goes := fun i ρ1 H1 hi l => ⟨l.fz a _ _ h, by simpa using hi⟩
  stops := fun ρ1 H1 l => ⟨l.fz a _ _ h, by simp⟩
  yields := fun i ρ1 κ H1 st x H2 hi l k s y => by
    obtain ⟨e, k', v, hk, e2⟩ := y
    subst e e2
    exact ⟨keyVal k', by rw [List.getElem?_map, List.getElem?_map, hk] <;> rfl, Le.refl _ _, s, keyVal_ok k'⟩
theorem for_core {body : List Stmt} {T : Tg} {b : FS} {items : List D} {J : It} {σ : Env} {σV : L2.St} {st1 : Store} {ρ1 : Pl} {H1 : Hp} {Z : Ends} (hK : X.K = g.K) (tk : Tk X E) (hb : SB g E X body b) (it : ItOk g ρ1 H1 J items) (s1 : SR g ρ1 st1 H1) (er : ER g ρ1 H1 σ σV) (h1 : OkS g ρ1 H1 E Z (loopF T b items σ st1)) :
    ∃ W : Nat → Nat → L2.St → Hp → Prop, (∃ m, W 0 m σV H1) ∧ ∀ i m σ H, W i m σ H →
      (J.stop i H ∧ Z.nx σ H) ∨ (J.go i H ∧ ∃ N : L2.St → Hp → Prop, (∀ σ' H', N σ' H' → ∃ m', m' < m ∧ W (i + 1) m' σ' H') ∧ ∀ x H', J.yld i H x H' → T.t X.K x σ H' fun σ2 H2 => mxB X body { Z with nx := N, ct := N, bk := Z.nx } σ2 H2) := by
  refine ⟨fun i m σV2 H2 => m = items.length - i ∧ i ≤ items.length ∧ ∃ (σ2 : Env) (st2 : Store) (ρ2 : Pl), Le ρ1 H1 ρ2 H2 ∧ SR g ρ2 st2 H2 ∧ ER g ρ2 H2 σ2 σV2 ∧ OkS g ρ2 H2 E Z (loopF T b (items.drop i) σ2 st2), ⟨items.length, by simp, Nat.zero_le _, σ, st1, ρ1, Le.refl _ _, s1, er, h1⟩, ?_⟩
  rintro i m σV2 H2 ⟨hm, hle, σ2, st2, ρ2, l2, s2, er2, h2⟩
  subst hm
  by_cases hlt : i < items.length
  · refine .inr ⟨it.goes i ρ2 H2 hlt l2, fun σV3 H3 => ∃ (σ3 : Env) (st3 : Store) (ρ3 : Pl), Le ρ1 H1 ρ3 H3 ∧ SR g ρ3 st3 H3 ∧ ER g ρ3 H3 σ3 σV3 ∧ OkS g ρ3 H3 E Z (loopF T b (items.drop (i + 1)) σ3 st3), fun σV3 H3 q => ⟨items.length - (i + 1), by omega, rfl, hlt, q⟩, fun x H3 y => ?_⟩
    obtain ⟨d, hd, l3, s3, r3⟩ := it.yields i ρ2 ρ2 H2 st2 x H3 hlt l2 l2.ke s2 y
    have ed : items.drop i = d :: items.drop (i + 1) := by
      rw [List.drop_eq_getElem_cons hlt]
      have := List.getElem?_eq_getElem hlt
      rw [this] at hd
      rw [Option.some.inj hd]
    rw [ed] at h2
    cases hgt : T.d d σ2 with
    | none =>
      simp only [loopF, hgt] at h2
      exact h2.elim
    | some σ3 =>
      refine T.ok hK (er2.mono l3) r3 hgt fun σV3 er3 _ => ?_
      refine hb hK tk σ3 st2 σV3 H3 ρ2 _ er3 s3 ?_
      have h3 := OkS.mono l3 h2
      simp only [loopF, hgt] at h3
      cases hbd : b σ3 st2 with
      | nx σ4 st4 =>
        rw [hbd] at h3
        exact fun σV4 H4 ρ4 l4 s4 er4 => ⟨σ4, st4, ρ4, (l2.trans l3).trans l4, s4, er4, OkS.mono l4 h3⟩
      | ct σ4 st4 =>
        rw [hbd] at h3
        exact fun σV4 H4 ρ4 l4 s4 er4 => ⟨σ4, st4, ρ4, (l2.trans l3).trans l4, s4, er4, OkS.mono l4 h3⟩
      | bk σ4 st4 => rw [hbd] at h3; exact h3
      | rt d4 st4 => rw [hbd] at h3; exact h3
      | exc c4 st4 => rw [hbd] at h3; exact h3
      | stk => rw [hbd] at h3; exact h3
  · have e : i = items.length := by omega
    subst e
    rw [List.drop_length] at h2
    exact .inl ⟨it.stops ρ2 H2 l2, h2 σV2 H2 ρ2 (Le.refl _ _) s2 er2⟩


/-- for T in d, d a variable that holds a dict that nobody changes -/
def sForK (i : Nat) (T : Tg) (b : FS) : FS := fun σ st => match σ[i]? with
  | some (some (.dic ks _)) => loopF T b (ks.map keyVal) σ st
  | _ => .stk
theorem ss_forK {tg : Expr} {x : Str} {body : List Stmt} {i : Nat} {T : Tg} {b : FS} {p pos : Pos} (hp : PassesOwn (model X.prog X.w) X.A X.env X.xe) (hc : X.calm = true) (hv : PE X (.Name x p) (tVar i)) (hg : SG X tg T) (hb : SB g E X body b)
    (hs : ∀ y, foldedSetIterable (.Name x p) X.env y = pure y := by intro _; rfl) : SS g E X (.For tg (.Name x p) body [] pos) (sForK i T b) := .mk fun hK tk σ st σV H ρ Z er sr h => by
  unfold sForK at h
  split at h
  · rename_i ks xs hi
    obtain ⟨v, h1, a, kvs, e, n, rd, ek, rs⟩ := er.at_ i _ hi
    subst e ek
    rcases rd with rd | ⟨o, rd⟩
    · refine ms_of (ps_lock (ps_for hp hc (pi_keys hv) hg (pss_mx (sts := body)) hs)) ⟨a, .dK kvs, rd, trivial, fun od => ?_⟩
      exact ⟨_, h1, a, od, rfl, .inl ⟨kvs, upd_same, for_core hK tk hb (it_keys upd_same) (sr.lock rd n) (er.ke (le_lock rd n).ke) (OkS.lock rd n h)⟩⟩
    · exact ms_of (ps_for hp hc (pi_keys hv) hg (pss_mx (sts := body)) hs) ⟨_, h1, a, o, rfl, .inl ⟨kvs, rd, for_core hK tk hb (it_keys rd) sr er h⟩⟩
  · exact h.elim
section
variable {tg iter : Expr} {ifs : List Expr} {elt : Expr} {scope : Scope} {own : List (Str × Nat)} {pos : Pos} {fi : FI} {T : Tg} {t : FT} {f : FE}
theorem lc_endsAt {σ : Env} {st : Store} {σV : L2.St} {Q : VK} {kf : List D → Store → R D} {tt : TT} {wi : TI} (hK : X.K = g.K) (tk : Tk X E)
    (hwi : ∀ Q : It → Hp → Prop, OkI g ρ H E Q (fi σ st) → wi σV H Q)
    (ht : ∀ (σ : Env) (st : Store) (σV : L2.St) (H : Hp) (ρ : Pl) (Q : Bool → Hp → Prop), ER g ρ H σ σV → SR g ρ st H → OkT g ρ H E0 Q (t σ st) → tt σV H Q)
    (he : Blk X scope fun Y => SE g E0 Y elt f) (hT : ∀ i ∈ T.ix, i ∈ own.map (·.2)) (er : ER g ρ H σ σV) (sr : SR g ρ st H)
    (h : Ok1 g ρ H E Q ((fi σ st).bind fun xs st1 => if small xs.length then (loopC T t f xs (wipeD σ (own.map (·.2))) st1).nox.bind kf else .stk))
    (hq : ∀ ds st2 (ρ1 : Pl) (H1 : Hp) (p : Addr) (vs : List V) (H' : Hp) (ρ' : Pl) (st1 : Store), Ok1 g ρ1 H1 E Q (kf ds st2) → SR g ρ1 st1 H1 → H1 p = none → Le ρ1 H1 ρ' H' → SR g (ρ'.hide p) st2 H' → H' p = some (.lst vs) → Rps g (ρ'.hide p) H' ds vs → Q (.ref p) H') :
    tLc wi (T.t X.K) tt (mxBE X scope elt) (own.map (·.2)) σV H Q := by
  refine hwi _ ?_
  cases e1 : fi σ st with
  | exc c st1 => rw [e1] at h; exact h
  | stk => rw [e1] at h; exact h.elim
  | ok items st1 =>
    rw [e1] at h
    intro J H1 ρ1 l1 s1 it p hp
    have h : Ok1 g ρ H E Q (if small items.length = true then (loopC T t f items (wipeD σ (own.map (·.2))) st1).nox.bind kf else .stk) := h
    by_cases hz : small items.length = true
    · rw [if_pos hz] at h
      cases e2 : loopC T t f items (wipeD σ (own.map (·.2))) st1 with
      | exc c st2 => rw [e2] at h; exact h.elim
      | stk => rw [e2] at h; exact h.elim
      | ok ds st2 =>
        rw [e2] at h
        have h : Ok1 g ρ1 H1 E Q (kf ds st2) := Ok1.mono l1 h
        refine lc_of hK ht (fun σ st σV H ρ Q er sr q s H0 C cl fp => he s H0 C cl fp hK tk0 σ st σV H ρ Q er sr q) hT (er.mono l1) s1 it hz (fun ds' st2' e3 p vs H' ρ' hp l s hpv r => ?_) ⟨ds, st2, e2⟩ p hp
        rw [e2] at e3
        injection e3 with e4 e5
        subst e4 e5
        exact hq ds st2 ρ1 H1 p vs H' ρ' st1 h s1 hp l s hpv r
    · rw [if_neg hz] at h
      exact h.elim

/-- [f for T in d if t] -/
def fItK (i : Nat) : FI := fun σ st => match σ[i]? with
  | some (some (.dic ks _)) => .ok (ks.map keyVal) st
  | _ => .stk
theorem lcK_of {i : Nat} {x : Str} {p : Pos} {tt : TT} {σ : Env} {st : Store} {σV : L2.St} {Q : VK} {e : Expr} (hK : X.K = g.K) (tk : Tk X E) (hpe : PE X e (tLc (iKeys (tVar i)) (T.t X.K) tt (mxBE X scope elt) (own.map (·.2))))
    (ht : ∀ (σ : Env) (st : Store) (σV : L2.St) (H : Hp) (ρ : Pl) (Q : Bool → Hp → Prop), ER g ρ H σ σV → SR g ρ st H → OkT g ρ H E0 Q (t σ st) → tt σV H Q)
    (he : Blk X scope fun Y => SE g E0 Y elt f) (hT : ∀ i ∈ T.ix, i ∈ own.map (·.2)) (er : ER g ρ H σ σV) (sr : SR g ρ st H) (h : Ok1 g ρ H E Q (fLc (fItK i) T t f (own.map (·.2)) σ st)) : mxE X e σV H Q := by
  have h0 := h
  unfold fLc fItK at h
  split at h
  · rename_i ks xs hi
    obtain ⟨v, h1, a, kvs, e, n, rd, ek, rs⟩ := er.at_ i _ hi
    subst e ek
    have hf : fItK i σ st = .ok ((kvs.map (·.1)).map keyVal) st := by unfold fItK; rw [hi]
    rcases rd with rd | ⟨o, rd⟩
    · refine mx_of (pe_lock hpe) ⟨a, .dK kvs, rd, trivial, fun od => ?_⟩
      refine lc_endsAt (fi := fItK i) hK tk (fun Q hq => ?_) ht he hT (er.ke (le_lock rd n).ke) (sr.lock rd n) (Ok1.lock (od := od) rd n h0) fun ds st2 ρ1 H1 p vs H' ρ' st1 q s1 hp l s hpv r => lc_froz q s1 hp l s hpv r
      rw [hf] at hq
      exact ⟨_, h1, a, od, rfl, .inl ⟨kvs, upd_same, hq _ _ ρ (Le.refl _ _) (sr.lock rd n) (it_keys upd_same)⟩⟩
    · refine mx_of hpe (lc_endsAt (fi := fItK i) hK tk (fun Q hq => ?_) ht he hT er sr h0 fun ds st2 ρ1 H1 p vs H' ρ' st1 q s1 hp l s hpv r => lc_froz q s1 hp l s hpv r)
      rw [hf] at hq
      exact ⟨_, h1, a, o, rfl, .inl ⟨kvs, rd, hq _ _ ρ (Le.refl _ _) sr (it_keys rd)⟩⟩
  · exact h.elim
variable {x : Str} {i : Nat} {p : Pos} {c : Expr}
theorem se_lcK (hc : X.calm = true) (hN : X.N.Nodup) (hv : PE X (.Name x p) (tVar i)) (ok : BlkOk X.N X.env.scope scope own) (hg : Blk X scope fun Y => SG Y tg T) (he : Blk X scope fun Y => SE g E0 Y elt f) (hT : ∀ i ∈ T.ix, i ∈ own.map (·.2)) (hs : ∀ y, foldedSetIterable (.Name x p) X.env y = pure y := by intro _; rfl) :
    SE g E X (.ListComp elt [⟨tg, .Name x p, [], 0⟩] scope pos) (fLc (fItK i) T fYes f (own.map (·.2))) := .mk fun hK tk σ st σV H ρ Q er sr h =>
  lcK_of (x := x) (p := p) hK tk (pe_lc hc hN (pi_keys hv) ok hg (fun _ _ _ _ _ => pts_nil) (te := mxBE X scope elt) (fun s H C cl fp => ⟨fun pins s1 σ1 H1 Q1 I q => q s H C cl fp pins s1 I⟩) hs) yes_ok he hT er sr h
theorem se_lcKIf (hc : X.calm = true) (hN : X.N.Nodup) (hv : PE X (.Name x p) (tVar i)) (ok : BlkOk X.N X.env.scope scope own) (hg : Blk X scope fun Y => SG Y tg T) (ht : Blk X scope fun Y => ST g E0 Y c t) (he : Blk X scope fun Y => SE g E0 Y elt f) (hT : ∀ i ∈ T.ix, i ∈ own.map (·.2)) (hs : ∀ y, foldedSetIterable (.Name x p) X.env y = pure y := by intro _; rfl) :
    SE g E X (.ListComp elt [⟨tg, .Name x p, [c], 0⟩] scope pos) (fLc (fItK i) T t f (own.map (·.2))) := .mk fun hK tk σ st σV H ρ Q er sr h =>
  lcK_of (x := x) (p := p) hK tk (pe_lc hc hN (pi_keys hv) ok hg (tt := mxBT X scope c) (fun s H C cl fp => pts_one ⟨fun pins s1 σ1 H1 Q1 I q => q s H C cl fp pins s1 I⟩) (te := mxBE X scope elt) (fun s H C cl fp => ⟨fun pins s1 σ1 H1 Q1 I q => q s H C cl fp pins s1 I⟩) hs)
    (fun σ st σV H ρ Q er sr q s H0 C cl fp => ht s H0 C cl fp hK tk0 σ st σV H ρ Q er sr q) he hT er sr h
end
end Hw
/-! HwX: instances: made, read, stored, their methods called. -/
namespace Hw
open PySem PySem.Spec PyProof.Rows L2
variable {g : G} {ρ ρ' ρ'' : Pl} {H H' H'' : Hp} {E : XK} {X : Cx}
/-! ### fields -/
def insOf (st : Store) (c : Nat) : D → Option (List Str × List D)
  | .loc n => match st[n]? with
    | some (.ins c' fs xs) => if c' = c then some (fs, xs) else none
    | _ => none
  | _ => none
def valF : List Str → List D → Str → Option D
  | k :: ks, x :: xs, j => if j = k then some x else valF ks xs j
  | _, _, _ => none
def putFD (f : Str) (v : D) : List Str → List D → List Str × List D
  | k :: ks, x :: xs => if k = f then (k :: ks, v :: xs) else (k :: (putFD f v ks xs).1, x :: (putFD f v ks xs).2)
  | _, _ => ([f], [v])
theorem insOf_ok {st : Store} (sr : SR g ρ st H) {c : Nat} {d : D} {v : V} {fs : List Str} {xs : List D} (r : Rp g ρ H d v) (h : insOf st c d = some (fs, xs)) :
    ∃ n a dx fvs, d = .loc n ∧ v = .ref a ∧ ρ.lk[n]? = some a ∧ st[n]? = some (.ins c fs xs) ∧ H a = some (.ins (g.ca c) dx fvs) ∧ fvs.map (·.1) = fs ∧ Rps g ρ H xs (fvs.map (·.2)) := by
  unfold insOf at h
  split at h
  · rename_i n
    split at h
    · rename_i c' fs' xs' hc
      by_cases e : c' = c
      · rw [if_pos e] at h
        cases h
        subst e
        obtain ⟨a, e1, hn⟩ := r
        obtain ⟨a', e2, dx, fvs, q1, q2, q3⟩ := sr.cell n _ hc
        rw [hn] at e2
        cases e2
        exact ⟨n, a, dx, fvs, rfl, e1, hn, hc, q1, q2, q3⟩
      · rw [if_neg e] at h; cases h
    · cases h
  · cases h
theorem valF_ok : ∀ {fvs : List (Str × V)} {xs : List D} {j : Str} {d : D}, Rps g ρ H xs (fvs.map (·.2)) → valF (fvs.map (·.1)) xs j = some d → ∃ v, fvs.lookup j = some v ∧ Rp g ρ H d v
  | [], xs, j, d, r, h => by simp [valF] at h
  | (k, v) :: fvs, [], j, d, r, h => by simp [valF] at h
  | (k, v) :: fvs, x :: xs, j, d, r, h => by
    obtain ⟨w, t, e, h1, h2⟩ := r
    have e : v :: fvs.map (·.2) = w :: t := e
    injection e with e1 e2
    subst e1 e2
    have h : (if j = k then some x else valF (fvs.map (·.1)) xs j) = some d := h
    by_cases e : j = k
    · rw [if_pos e] at h
      cases h
      exact ⟨v, by simp [List.lookup, e], h1⟩
    · rw [if_neg e] at h
      obtain ⟨u, q1, q2⟩ := valF_ok h2 h
      refine ⟨u, ?_, q2⟩
      have hb : (j == k) = false := beq_eq_false_iff_ne.mpr e
      simp only [List.lookup, hb, q1]
theorem putFD_ok {f : Str} {d : D} {v : V} (rd : Rp g ρ H d v) : ∀ {fvs : List (Str × V)} {xs : List D}, Rps g ρ H xs (fvs.map (·.2)) → (putF f v fvs).map (·.1) = (putFD f d (fvs.map (·.1)) xs).1 ∧ Rps g ρ H (putFD f d (fvs.map (·.1)) xs).2 ((putF f v fvs).map (·.2))
  | [], xs, r => by
    cases xs with
    | nil => exact ⟨rfl, Rps.one rd⟩
    | cons x xs => obtain ⟨_, _, e, _⟩ := r; cases e
  | (k, u) :: fvs, [], r => by
    have e : u :: fvs.map (·.2) = [] := r
    cases e
  | (k, u) :: fvs, x :: xs, r => by
    obtain ⟨w, t, e, h1, h2⟩ := r
    have e : u :: fvs.map (·.2) = w :: t := e
    injection e with e1 e2
    subst e1 e2
    obtain ⟨i1, i2⟩ := putFD_ok rd h2
    show (if k = f then (k, v) :: fvs else (k, u) :: putF f v fvs).map (·.1) = (if k = f then (k :: fvs.map (·.1), d :: xs) else (k :: (putFD f d (fvs.map (·.1)) xs).1, x :: (putFD f d (fvs.map (·.1)) xs).2)).1 ∧
      Rps g ρ H (if k = f then (k :: fvs.map (·.1), d :: xs) else (k :: (putFD f d (fvs.map (·.1)) xs).1, x :: (putFD f d (fvs.map (·.1)) xs).2)).2 ((if k = f then (k, v) :: fvs else (k, u) :: putF f v fvs).map (·.2))
    by_cases hk : k = f
    · simp only [hk, if_true]
      exact ⟨rfl, ⟨v, _, rfl, rd, h2⟩⟩
    · simp only [hk, if_false]
      exact ⟨by rw [List.map_cons, i1], ⟨u, _, rfl, h1, i2⟩⟩
theorem ins_tbl {C dx : Addr} {fs : List (Str × V)} (ps : Array Value) : HO.ins C dx fs ≠ .tbl ps := fun z => by cases z
theorem ins_code {C dx : Addr} {fs : List (Str × V)} (c : Addr) (q : Str) : HO.ins C dx fs ≠ LamX.CodeO c q := fun z => by unfold LamX.CodeO at z; cases z
/-- a class of the program's own: its name, its fields' names -/
structure Cs (g : G) (mg : Str → Option Value) (c : Nat) (x : Str) (fs : List Str) : Prop where
  cl : Cls g.K (g.ca c)
  makes : PySem.W.makesIn g.K (g.ca c) = true
  kp : PySem.W.keepIn g.K (.ref (g.ca c)) = true
  mgx : mg x = some (.ref (g.ca c))
  na : ∀ f ∈ fs, NoAttr g.K (g.ca c) f
/-- a method that keeps its promise -/
structure Cm (g : G) (P : Program) (w : World) (mg : Str → Option Value) (base : Heap) (k : Nat) (c : Nat) (m : Str) (n : Nat) (cm : List D → Store → R D) : Prop where
  ex : ∃ (a : Addr) (fd : FuncData) (ps : List Str), FnOk P w g.K mg base (L2N.CX P w) k a fd ps (spD g n cm) ∧ Meth g.K (g.ca c) m a ∧ L2.Binds g.K fd ps [] ∧ ps.length = n
theorem Cm.mono {P : Program} {w : World} {mg : Str → Option Value} {base : Heap} {j k c n : Nat} {m : Str} {cm : List D → Store → R D} (C : Cm g P w mg base j c m n cm) (h : j ≤ k) : Cm g P w mg base k c m n cm := by
  obtain ⟨a, fd, ps, F, r⟩ := C.ex
  exact ⟨a, fd, ps, F.mono h, r⟩
structure Dm (K : PySem.W.Frag) (C : Addr) (m qual : Str) (s : Stmt) (ps : List Str) : Prop where
  ex : ∃ (a : Addr) (fd : FuncData), Fun K m qual s a fd ∧ Meth K C m a ∧ ∀ us : List Value, us.length = ps.length → bindArgs fd ⟨us, []⟩ = pure (ps.zip us)
theorem cm_of {P : Program} {w : World} {mg : Str → Option Value} {base : Heap} {c : Nat} {m qual : Str} {s : Stmt} {N ps : List Str} {k : Nat} {f : FS} (D : Dm g.K (g.ca c) m qual s ps) (S : FnScope N ps (defScope s))
    (hbody : ∀ (fa : Addr) (cdv : Value) (A : Around) (outer : List PySem.Env) (s1 : Shared) (H : Hp) (E : XK), Room k (A.deeper (envOfC qual (defScope s) s1.heap.objs.size fa cdv)) → SB g E (cxOf (L2N.CX P w) P w g.K mg base N qual (defScope s) fa cdv A outer s1 H E) (defBody s) f) :
    Cm g P w mg base (k + 1) c m ps.length (callB N.length f) := by
  obtain ⟨a, fd, F, M, b⟩ := D.ex
  exact ⟨a, fd, ps, fn_ok F S fun cdv A outer s1 H E hr => hbody a cdv A outer s1 H E hr, M, .all b, rfl⟩
/-! ### e.f -/
def fFld (c : Nat) (nm : Str) (f : FE) : FE := fun σ st => (f σ st).bind fun d st1 => R.of (((insOf st1 c d).bind fun p => valF p.1 p.2 nm).map fun x => (x, st1))
theorem se_fld {c : Nat} {x nm : Str} {fs : List Str} {e : Expr} {f : FE} {pos : Pos} (C : Cs g X.mg c x fs) (hf : nm ∈ fs) (he : SE g E X e f) (hb : attributeBase e nm X.env (eval e X.env) = eval e X.env := by rfl) : SE g E X (.Attribute e nm pos) (fFld c nm f) := .mk fun hK tk σ st σV H ρ Q er sr h =>
  mx_of (pe_fld (pe_mx (e := e)) hb) (he hK tk σ st σV H ρ _ er sr (Ok1.bind h fun d st1 v H1 ρ1 l1 s1 r1 h1 => by
    obtain ⟨z, st', e1, q⟩ := h1.of
    simp only [Option.map_eq_some_iff, Option.bind_eq_some_iff] at e1
    obtain ⟨y, ⟨p, e2, e3⟩, e4⟩ := e1
    cases e4
    obtain ⟨n, a, dx, fvs, _, ev, hn, hc, ha, ek, rs⟩ := insOf_ok s1 r1 e2
    rw [← ek] at e3
    obtain ⟨u, h2, h3⟩ := valF_ok rs e3
    refine ⟨a, g.ca c, dx, fvs, u, ev, ha, ?_, ?_, h2, q u H1 ρ1 (Le.refl _ _) s1 h3⟩
    · rw [hK]; exact C.cl
    · rw [hK]; exact C.na nm hf))
/-- o.f = v -/
def sFldE (c : Nat) (nm : Str) (fo fv : FE) : FS := fun σ st => (fv σ st).thn fun v st1 => (fo σ st1).thn fun d st2 => match d, insOf st2 c d with
  | .loc n, some p => if small p.1.length && decide (p.1.length < 900) then .nx σ (st2.set n (.ins c (putFD nm v p.1 p.2).1 (putFD nm v p.1 p.2).2)) else .stk
  | _, _ => .stk
theorem SR.setIns {st : Store} (sr : SR g ρ st H) {n c : Nat} {a dx : Addr} {fv0 fvs : List (Str × V)} {ds : List D} (hn : ρ.lk[n]? = some a) (ha : H a = some (.ins (g.ca c) dx fv0)) (r : Rps g ρ H ds (fvs.map (·.2))) :
    SR g ρ (st.set n (.ins c (fvs.map (·.1)) ds)) (upd H a (.ins (g.ca c) dx fvs)) ∧ Le ρ H ρ (upd H a (.ins (g.ca c) dx fvs)) := by
  have l := sr.leWrite (o := .ins (g.ca c) dx fvs) ins_tbl (List.mem_of_getElem? hn)
  exact ⟨sr.write ins_tbl hn ha ins_tbl ins_code ⟨dx, fvs, upd_same, rfl, r.mono l⟩, l⟩
theorem ss_fld {c : Nat} {x nm : Str} {fs : List Str} {o value : Expr} {fo fv : FE} {pos pos' : Pos} (C : Cs g X.mg c x fs) (hf : nm ∈ fs) (ho : SE g E X o fo) (hv : SE g E X value fv) (hs : swapsWith value (some (.Attribute o nm pos')) pos.line X.env = pure false := by rfl) :
    SS g E X (.Assign [.Attribute o nm pos'] value pos) (sFldE c nm fo fv) := .mk fun hK tk σ st σV H ρ Z er sr h =>
  ms_of (ps_fld (pe_mx (e := o)) (pe_mx (e := value)) hs) (hv hK tk σ st σV H ρ _ er sr (OkS.thn h fun y st1 v1 H1 ρ1 l1 s1 r1 h1 => ho hK tk σ st1 σV H1 ρ1 _ (er.mono l1) s1 (OkS.thn h1 fun d st2 v2 H2 ρ2 l2 s2 r2 h2 => by
    cases d with
    | loc n =>
      cases hi : insOf st2 c (.loc n) with
      | none => simp only [hi] at h2; exact h2.elim
      | some p =>
        simp only [hi] at h2
        by_cases hz : (small p.1.length && decide (p.1.length < 900)) = true
        · rw [if_pos hz] at h2
          simp only [Bool.and_eq_true, decide_eq_true_eq] at hz
          obtain ⟨n', a, dx, fvs, en, ev, hn, hc, ha, ek, rs⟩ := insOf_ok s2 r2 hi
          cases en
          obtain ⟨p1, p2⟩ := putFD_ok (f := nm) (r1.mono l2) rs
          obtain ⟨s3, l3⟩ := s2.setIns (c := c) (fvs := putF nm v1 fvs) hn ha p2
          rw [p1, ek] at s3
          refine ⟨a, g.ca c, dx, fvs, ev, ha, ?_, ?_, ?_, h2 σV _ ρ2 l3 s3 (((er.mono l1).mono l2).mono l3)⟩
          · rw [hK]; exact C.cl
          · rw [hK]; exact C.na nm hf
          · have : fvs.length = p.1.length := by rw [← ek, List.length_map]
            omega
        · rw [if_neg hz] at h2; exact h2.elim
    | _ => simp only [insOf] at h2; exact h2.elim)))
/-! ### C(..) -/
def fMake (c : Nat) (ci : List D → Store → R D) (fa : FA) : FE := fun σ st => (fa σ st).bind fun ds st1 => (ci (.loc st1.length :: ds) (st1 ++ [.ins c [] []])).bind fun v st2 => match v with
  | .non => .ok (.loc st1.length) st2
  | _ => .stk
theorem make_of {c n : Nat} {ci : List D → Store → R D} {st1 : Store} {ρ1 : Pl} {H1 : Hp} {ds : List D} {vs : List V} {Q : VK} (s1 : SR g ρ1 st1 H1) (r : Rps g ρ1 H1 ds vs) (hl : vs.length + 1 = n)
    (h : Ok1 g ρ1 H1 E Q ((ci (.loc st1.length :: ds) (st1 ++ [.ins c [] []])).bind fun v st2 => match v with
      | .non => .ok (.loc st1.length) st2
      | _ => .stk)) (x dx : Addr) (hx : H1 x = none) (hdx : H1 dx = none) (ne : dx ≠ x) : spD g n ci (.ref x :: (vs ++ [])) (upd (upd H1 dx (.own x)) x (.ins (g.ca c) dx [])) (fun v H2 => v = .non ∧ Q (.ref x) H2) E := by
  rw [List.append_nil]
  have la := s1.leLay (o := .own x) hdx
  have s2 := s1.lay (o := .own x) hdx
  have hx2 : upd H1 dx (.own x) x = none := by rw [upd_ne (fun e => ne e.symm)]; exact hx
  have lb := s2.leNew (o := .ins (g.ca c) dx []) hx2
  have s3 := s2.new (o := .ins (g.ca c) dx []) (c := .ins c [] []) hx2 ⟨dx, [], upd_same, rfl, rfl⟩
  have l := la.trans lb
  refine ⟨by rw [List.length_cons]; exact hl, .loc st1.length :: ds, _, _, ⟨.ref x, vs, rfl, Rp.of_loc s2, r.mono l⟩, s3, ?_⟩
  have h := Ok1.mono l h
  cases e : ci (.loc st1.length :: ds) (st1 ++ [.ins c [] []]) with
  | stk => rw [e] at h; exact h.elim
  | exc k st' =>
    rw [e] at h
    exact fun H' ρ' l2 s' => h H' ρ' l2 s'
  | ok v st2 =>
    rw [e] at h
    intro u H' ρ' l2 s' ru
    cases v with
    | non => exact ⟨ru, (show Ok1 g (ρ1.push x) _ E Q (.ok (.loc st1.length) st2) from h) (.ref x) H' ρ' l2 s' ((Rp.of_loc (g := g) (H' := upd (upd H1 dx (.own x)) x (.ins (g.ca c) dx [])) s2).mono l2)⟩
    | _ => exact h.elim
section
variable {c j k n : Nat} {ci : List D → Store → R D} {x : Str} {fs : List Str} {p pos : Pos} {e : Expr} {es : List Expr} {fa : FA}
theorem mk_of (C : Cs g X.mg c x fs) {a : Addr} (M : Meth g.K (g.ca c) "__init__" a) : Mk g.K (g.ca c) a := ⟨C.makes, M.at_, M.fn, C.kp⟩
theorem se_make (C : Cs g X.mg c x fs) (I : Cm g X.prog X.w X.mg X.base j c "__init__" (n + 1) ci) (hr : Room k X.A) (hjk : j + 1 ≤ k) (hg : Gl X x) (hl : FL n fa) (ha : SA g E X (e :: es) fa) (hdb : (x == ("__debug__" : Str)) = false := by decide)
    (he : starEach (e :: es) X.env = (false, eval e X.env) :: starEach es X.env := by rfl) (hpl : (backTo pos (starEach es X.env)).any (·.1) = false := by rfl) : SE g E X (.Call (.Name x p) (e :: es) [] pos) (fMake c ci fa) := .mk fun hK tk σ st σV H ρ Q er sr h => by
  obtain ⟨a, fd, ps, F, M, b, hn⟩ := I.ex
  have M := mk_of C M
  rw [← hK] at F M b
  refine mx_of (pe_make (E := E) M F (hr.mono hjk) hg C.mgx b .nil (L2N.passes_call tk (fun _ _ _ _ z => z)) (pa_mx (es := e :: es)) hdb he hpl) (ha hK tk σ st σV H ρ _ er sr ?_)
  have q := Ok1.bindA (Q' := fun vs H1 => vs.length = n → ∀ x dx, H1 x = none → H1 dx = none → dx ≠ x → spD g (n + 1) ci (.ref x :: (vs ++ [])) (upd (upd H1 dx (.own x)) x (.ins (g.ca c) dx [])) (fun v H2 => v = .non ∧ Q (.ref x) H2) E) h fun ds st1 vs H1 ρ1 l1 s1 r1 h1 hz => make_of s1 r1 (by omega) h1
  cases e1 : fa σ st with
  | ok ds st' =>
    rw [e1] at q
    exact fun vs H' ρ' l s r => q vs H' ρ' l s r (by rw [← r.length]; exact hl σ st ds st' e1)
  | exc c st' => rw [e1] at q; exact q
  | stk => rw [e1] at q; exact q
theorem se_make0 (C : Cs g X.mg c x fs) (I : Cm g X.prog X.w X.mg X.base j c "__init__" 1 ci) (hr : Room k X.A) (hjk : j + 1 ≤ k) (hg : Gl X x) (hdb : (x == ("__debug__" : Str)) = false := by decide) : SE g E X (.Call (.Name x p) [] [] pos) (fMake c ci fNil) := .mk fun hK tk σ st σV H ρ Q er sr h => by
  obtain ⟨a, fd, ps, F, M, b, hn⟩ := I.ex
  have M := mk_of C M
  rw [← hK] at F M b
  exact mx_of (pe_make0 (E := E) M F (hr.mono hjk) hg C.mgx b .nil (L2N.passes_call tk (fun _ _ _ _ z => z)) hdb) (make_of (n := 1) (vs := []) (ds := []) sr rfl rfl h)
end
/-! ### o.m(..) -/
def fMeth (c : Nat) (nm : Str) (cm : List D → Store → R D) (fo : FE) (fa : FA) : FE := fun σ st => (fo σ st).bind fun d st1 => match insOf st1 c d with
  | some p => if p.1.contains nm then .stk else (fa σ st1).bind fun ds st2 => cm (d :: ds) st2
  | none => .stk
theorem lookup_none {nm : Str} : ∀ {fvs : List (Str × V)}, (fvs.map (·.1)).contains nm = false → fvs.lookup nm = none
  | [], _ => rfl
  | (k, v) :: fvs, h => by
    simp only [List.map_cons, List.contains_cons, Bool.or_eq_false_iff] at h
    simp only [List.lookup, h.1, lookup_none h.2]
section
variable {c j k n : Nat} {cm : List D → Store → R D} {x nm : Str} {fs : List Str} {apos pos : Pos} {o e : Expr} {es : List Expr} {fo : FE} {fa : FA} {pl : Sem Bool}
theorem se_meth (C : Cs g X.mg c x fs) (I : Cm g X.prog X.w X.mg X.base j c nm (n + 1) cm) (hr : Room k X.A) (hjk : j ≤ k) (ho : SE g E X o fo) (hl : FL n fa) (ha : SA g E X (e :: es) fa)
    (hst : starEach (e :: es) X.env = (false, eval e X.env) :: starEach es X.env := by rfl) (hpl : (backTo pos (starEach es X.env)).any (·.1) = false := by rfl)
    (ht : eval (.Call (.Attribute o nm apos) (e :: es) [] pos) X.env = (do
      let ov ← eval o X.env
      standAt apos.atName
      let (f, first) ← holding [ov] (getMethod ov nm pl)
      callWith pos f first (backTo pos (starEach (e :: es) X.env)) (backToKw pos (keywordEach [] X.env))) := by rfl) : SE g E X (.Call (.Attribute o nm apos) (e :: es) [] pos) (fMeth c nm cm fo fa) := .mk fun hK tk σ st σV H ρ Q er sr h => by
  obtain ⟨a, fd, ps, F, M, b, hn⟩ := I.ex
  have cl := C.cl
  rw [← hK] at F M b cl
  refine mx_of (pe_meth (E := E) (pe_mx (e := o)) cl M F (hr.mono hjk) b .nil (L2N.passes_call tk (fun _ _ _ _ z => z)) (pa_mx (es := e :: es)) hst hpl ht) (ho hK tk σ st σV H ρ _ er sr (Ok1.bind h fun d st1 v H1 ρ1 l1 s1 r1 h1 => ?_))
  cases hi : insOf st1 c d with
  | none => simp only [hi] at h1; exact h1.elim
  | some p =>
    simp only [hi] at h1
    by_cases hc : p.1.contains nm = true
    · rw [if_pos hc] at h1; exact h1.elim
    · rw [if_neg hc] at h1
      obtain ⟨m, a', dx, fvs, en, ev, hn', hc', ha', ek, rs⟩ := insOf_ok s1 r1 hi
      refine ⟨a', dx, fvs, ev, ha', lookup_none (by rw [ek]; simpa using hc), ha hK tk σ st1 σV H1 ρ1 _ (er.mono l1) s1 ?_⟩
      have q := Ok1.bindA (Q' := fun vs H2 => vs.length = n → spD g (n + 1) cm (v :: (vs ++ [])) H2 Q E) h1 fun ds st2 vs H2 ρ2 l2 s2 r2 h2 hz => ⟨by rw [List.append_nil, List.length_cons, hz], d :: ds, st2, ρ2, by rw [List.append_nil]; exact ⟨v, vs, rfl, r1.mono l2, r2⟩, s2, h2⟩
      cases e1 : fa σ st1 with
      | ok ds st' =>
        rw [e1] at q
        exact fun vs H' ρ' l s r => q vs H' ρ' l s r (by rw [← r.length]; exact hl σ st1 ds st' e1)
      | exc c st' => rw [e1] at q; exact q
      | stk => rw [e1] at q; exact q
theorem se_meth0 (C : Cs g X.mg c x fs) (I : Cm g X.prog X.w X.mg X.base j c nm 1 cm) (hr : Room k X.A) (hjk : j ≤ k) (ho : SE g E X o fo)
    (ht : eval (.Call (.Attribute o nm apos) [] [] pos) X.env = (do
      let ov ← eval o X.env
      standAt apos.atName
      let (f, first) ← holding [ov] (getMethod ov nm pl)
      callWith pos f first (backTo pos (starEach [] X.env)) (backToKw pos (keywordEach [] X.env))) := by rfl) : SE g E X (.Call (.Attribute o nm apos) [] [] pos) (fMeth c nm cm fo fNil) := .mk fun hK tk σ st σV H ρ Q er sr h => by
  obtain ⟨a, fd, ps, F, M, b, hn⟩ := I.ex
  have cl := C.cl
  rw [← hK] at F M b cl
  refine mx_of (pe_meth0 (E := E) (pe_mx (e := o)) cl M F (hr.mono hjk) b .nil (L2N.passes_call tk (fun _ _ _ _ z => z)) ht) (ho hK tk σ st σV H ρ _ er sr (Ok1.bind h fun d st1 v H1 ρ1 l1 s1 r1 h1 => ?_))
  cases hi : insOf st1 c d with
  | none => simp only [hi] at h1; exact h1.elim
  | some p =>
    simp only [hi] at h1
    by_cases hc : p.1.contains nm = true
    · rw [if_pos hc] at h1; exact h1.elim
    · rw [if_neg hc] at h1
      obtain ⟨m, a', dx, fvs, en, ev, hn', hc', ha', ek, rs⟩ := insOf_ok s1 r1 hi
      exact ⟨a', dx, fvs, ev, ha', lookup_none (by rw [ek]; simpa using hc), rfl, [d], st1, ρ1, Rps.one r1, s1, h1⟩
end
end Hw
/-! HwY: a text times a number; defs that call themselves. -/
namespace Hw
open PySem PySem.Spec PyProof.Rows L2
variable {g : G} {ρ ρ' ρ'' : Pl} {H H' H'' : Hp} {E : XK} {X : Cx}
/-! ### a text times a number -/
def strMul (s : Str) (k : Nat) : Str := ⟨(List.replicate k s.cps).foldl (· ++ ·) #[]⟩
def mulSok (s : Str) (k : Int) : Bool := decide (2 ≤ k ∧ k ≤ 1000 ∧ s.length ≤ 1000 ∧ s.length ≠ 0)
def rMulS : R2 := fun x y H Q => ∃ s k, x = .str s ∧ y = .int k ∧ mulSok s k = true ∧ Q (.str (strMul s k.toNat)) H
theorem op_mulS : OpR X (binaryOp .Mult) rMulS := by
  intro pins s σ H x y v u Q I rx ry h
  obtain ⟨z, k, rfl, rfl, ok, q⟩ := h
  obtain ⟨t, rfl⟩ := rx
  obtain ⟨t2, rfl⟩ := ry
  obtain ⟨h1, h2, h3, h4⟩ := of_decide_eq_true ok
  have n1 : ¬k < 1 := by omega
  have nk : (k == 1 || z.length == 0) = false := by
    have e1 : (k == 1) = false := by simp; omega
    have e2 : (z.length == 0) = false := by simpa using h4
    rw [e1, e2] <;> rfl
  have hm : z.length * k.toNat ≤ 1000000 := Nat.le_trans (Nat.mul_le_mul h3 (by omega : k.toNat ≤ 1000)) (by decide)
  refine P.mul_str ?_ (fun _ _ => ?_) (fun _ _ => ?_) ?_
  · have e1 : ¬k < -(2 ^ 63 : Int) := by omega
    have e2 : ¬k ≥ 2 ^ 63 := by omega
    rw [decide_eq_false e1, decide_eq_false e2] <;> rfl
  · have hk : (2 ^ 63 - 1 : Int) / k ≥ 1000000 := by
      have : (1000000 : Int) * k ≤ 2 ^ 63 - 1 := by omega
      exact Int.le_ediv_of_mul_le (by omega) this
    omega
  · unfold Builtin.Str.tooLong
    exact decide_eq_false (by rw [sizeLine_eq]; omega)
  · rw [if_neg n1, if_neg (by rw [nk]; exact Bool.false_ne_true)]
    refine ⟨?_, .str (strMul z k.toNat), H, I.tok _, ⟨_, rfl⟩, q⟩
    show ((List.replicate k.toNat z.cps).foldl (· ++ ·) #[]).size ≤ sizeLine
    have e := PyProof.Rows.len_reps z.cps k.toNat #[]
    have e2 : z.cps.size = z.length := rfl
    rw [e, e2, Nat.mul_comm]
    show 0 + _ ≤ _
    rw [sizeLine_eq]
    omega
def dMulS (x y : D) (st : Store) : Option (D × Store) := match x, y with
  | .str s, .int k => if mulSok s k then some (.str (strMul s k.toNat), st) else none
  | _, _ => none
theorem sop_mulS : SOp g rMulS dMulS := by
  intro x y z st st' ρ H v w Q sr r1 r2 h q
  unfold dMulS at h
  split at h
  · obtain ⟨h4, h5⟩ := if_some h
    cases h5
    exact ⟨_, _, r1, r2, h4, q _ H ρ (Le.refl _ _) sr rfl⟩
  · cases h
theorem se_mulS {a b : Expr} {f k : FE} {pos : Pos} (ha : SE g E X a f) (hb : SE g E X b k) : SE g E X (.BinOp a .Mult b pos) (fOp dMulS f k) := .mk fun hK => se_op op_mulS sop_mulS ha hb hK
/-! ### defs that call themselves -/
/-- no fuel: nothing is promised -/
theorem ca_stk {P : Program} {w : World} {mg : Str → Option Value} {base : Heap} {k n : Nat} {x : Str} {s : Stmt} {N ps : List Str} (D : Df g.K mg x s ps) (S : FnScope N ps (defScope s)) (hn : ps.length = n) : Ca g P w mg base (k + 1) x n (fun _ _ => .stk) := by
  obtain ⟨a, fd, F, m, b⟩ := D.ex
  obtain ⟨oc, od, kV, doc, pm, an, cdv, ct, osl, e, lk, hcd⟩ := F.ex
  subst e
  refine ⟨a, _, ps, fn_of lk hcd S (fun vs H Q E h => by rw [h.1, hn]) fun A outer s1 H vs Q E hr h => ?_, m, F.kp, .all b, hn⟩
  obtain ⟨_, _, _, _, _, _, z⟩ := h
  exact z.elim
theorem cm_stk {P : Program} {w : World} {mg : Str → Option Value} {base : Heap} {c k n : Nat} {m qual : Str} {s : Stmt} {N ps : List Str} (D : Dm g.K (g.ca c) m qual s ps) (S : FnScope N ps (defScope s)) (hn : ps.length = n) : Cm g P w mg base (k + 1) c m n (fun _ _ => .stk) := by
  obtain ⟨a, fd, F, M, b⟩ := D.ex
  obtain ⟨oc, od, kV, doc, pm, an, cdv, ct, osl, e, lk, hcd⟩ := F.ex
  subst e
  refine ⟨a, _, ps, fn_of lk hcd S (fun vs H Q E h => by rw [h.1, hn]) fun A outer s1 H vs Q E hr h => ?_, M, .all b, hn⟩
  obtain ⟨_, _, _, _, _, _, z⟩ := h
  exact z.elim
/-! ### items of a dict or a row -/
def dIx2 (x y : D) (st : Store) : Option (D × Store) := match dicOf st x with
  | some _ => dAt x y st
  | none => dIx x y st
theorem op_split {d d1 d2 : D → D → Store → Option (D × Store)} {f k : FE} {σ : Env} {st : Store} (h : ∀ x y st, d x y st = d1 x y st ∨ d x y st = d2 x y st) : fOp d f k σ st = fOp d1 f k σ st ∨ fOp d f k σ st = fOp d2 f k σ st := by
  unfold fOp
  cases e1 : f σ st with
  | stk => exact .inl rfl
  | exc c st1 => exact .inl rfl
  | ok x st1 =>
    simp only [R.bind]
    cases e2 : k σ st1 with
    | stk => exact .inl rfl
    | exc c st2 => exact .inl rfl
    | ok y st2 =>
      simp only [R.bind]
      rcases h x y st2 with h | h
      · exact .inl (by rw [h])
      · exact .inr (by rw [h])
theorem se_split {e : Expr} {d d1 d2 : D → D → Store → Option (D × Store)} {f k : FE} (h : ∀ x y st, d x y st = d1 x y st ∨ d x y st = d2 x y st) (h1 : SE g E X e (fOp d1 f k)) (h2 : SE g E X e (fOp d2 f k)) : SE g E X e (fOp d f k) := .mk fun hK tk σ st σV H ρ Q er sr q => by
  rcases op_split (f := f) (k := k) (σ := σ) (st := st) h with e1 | e1
  · rw [e1] at q; exact h1 hK tk σ st σV H ρ Q er sr q
  · rw [e1] at q; exact h2 hK tk σ st σV H ρ Q er sr q
theorem se_item2 {a b : Expr} {f k : FE} {pos : Pos} (hu : X.A.units + 65 < cLine) (ha : SE g E X a f) (hb : SE g E X b k) (hs : ∀ o i, subscripted b false o i = operate [o, i] (getItem o i) := by first | (intro _ _; rfl) | exact fun _ _ => rfl) : SE g E X (.Subscript a b pos) (fOp dIx2 f k) :=
  se_split (d1 := dAt) (d2 := dIx) (fun x y st => by
    unfold dIx2
    cases dicOf st x with
    | some p => exact .inl rfl
    | none => exact .inr rfl) (se_dat hu ha hb hs) (se_item ha hb hs)
def dMul2 (x y : D) (st : Store) : Option (D × Store) := match x with
  | .str _ => dMulS x y st
  | _ => dMulD x y st
theorem se_mul2 {a b : Expr} {f k : FE} {pos : Pos} (ha : SE g E X a f) (hb : SE g E X b k) : SE g E X (.BinOp a .Mult b pos) (fOp dMul2 f k) :=
  se_split (d1 := dMulS) (d2 := dMulD) (fun x y st => by
    unfold dMul2
    cases x <;> first | exact .inl rfl | exact .inr rfl) (se_mulS ha hb) (se_mul ha hb)
/-! ### calls that hand on what lives -/
def endL : F → R D
  | .rt d st2 => .ok d st2
  | .nx _ st2 => .ok .non st2
  | .exc c st2 => .exc c st2
  | _ => .stk
def callBL (m : Nat) (f : FS) : List D → Store → R D := fun ds st => endL (f (startD m ds) st)
theorem OkS.ofEndL {Q : VK} : ∀ {r : F}, Ok1 g ρ H E Q (endL r) → OkS g ρ H E { nx := fun _ H' => Q .non H', rt := Q } r
  | .nx σ' st2, h => fun σV H' ρ' l s er => h .non H' ρ' l s rfl
  | .rt d st2, h => fun v H' ρ' l s r => h v H' ρ' l s r
  | .bk _ _, h => h.elim
  | .ct _ _, h => h.elim
  | .exc c st2, h => fun H' ρ' l s => h H' ρ' l s
  | .stk, h => h.elim
theorem ca_ofL {P : Program} {w : World} {mg : Str → Option Value} {base : Heap} {x : Str} {s : Stmt} {N ps : List Str} {k : Nat} {f : FS} (D : Df g.K mg x s ps) (S : FnScope N ps (defScope s))
    (hbody : ∀ (fa : Addr) (cdv : Value) (A : Around) (outer : List PySem.Env) (s1 : Shared) (H : Hp) (E : XK), Room k (A.deeper (envOfC x (defScope s) s1.heap.objs.size fa cdv)) → SB g E (cxOf (L2N.CX P w) P w g.K mg base N x (defScope s) fa cdv A outer s1 H E) (defBody s) f) :
    Ca g P w mg base (k + 1) x ps.length (callBL N.length f) := by
  obtain ⟨a, fd, F, m, b⟩ := D.ex
  have kp := F.kp
  obtain ⟨oc, od, kV, doc, pm, an, cdv, ct, osl, e, lk, hcd⟩ := F.ex
  subst e
  refine ⟨a, _, ps, fn_of (N := N) lk hcd S (fun vs H Q E h => h.1) fun A outer s1 H vs Q E hr h => ?_, m, kp, .all b, rfl⟩
  obtain ⟨hl, ds, st, ρ, r, sr, ok⟩ := h
  exact ⟨_, pss_mx, hbody a cdv A outer s1 H E hr rfl (L2N.takes_of rfl rfl rfl rfl) _ st _ H ρ _ (er_start r) sr (OkS.ofEndL ok)⟩
/-! ### facts behind the top -/
theorem df_fund {K : PySem.W.Frag} {h : Heap} {mg : Str → Option Value} {x : Str} {s : Stmt} {ps : List Str} (X : K.In h) (G : h.Ns mainGlobals mg) {fd : FuncData} (F : FunD K x x (defArgs s) (defBody s) (defScope s) [] [] (He.fAd K (x, none)) fd) (a : (He.Fa.glo x).ok K = true)
    (b : ∀ (kV doc pm : Value) (an : Option Addr) (cdv ct : Value) (us : List Value), us.length = ps.length → bindArgs (PySem.W.fnOf x x (defArgs s) (defBody s) (defScope s) .none kV doc pm an cdv ct) ⟨us, []⟩ = pure (ps.zip us)) : Df K mg x s ps := by
  obtain ⟨oc, od, dV, kV, doc, pm, an, cdv, ct, osl, e, lk, hcd, hd, hk⟩ := F.ex
  have e2 : dV = .none := by
    rcases hd with ⟨_, hd⟩ | ⟨hd, _⟩
    · exact hd
    · exact absurd rfl hd
  subst e2 e
  exact ⟨He.ga K x, _, ⟨⟨oc, od, kV, doc, pm, an, cdv, ct, osl, rfl, lk, hcd⟩, F.kp⟩, He.glo_ok X G a, b kV doc pm an cdv ct⟩
theorem dfL_fund {K : PySem.W.Frag} {h : Heap} {mg : Str → Option Value} {x : Str} {s : Stmt} {ps : List Str} (X : K.In h) (G : h.Ns mainGlobals mg) {fd : FuncData} (F : FunD K x x (defArgs s) (defBody s) (defScope s) [] [] (He.fAd K (x, none)) fd) (a : (He.Fa.glo x).ok K = true)
    (b : ∀ (kV doc pm : Value) (an : Option Addr) (cdv ct : Value) (us : List Value), us.length = ps.length → bindArgs (PySem.W.fnOf x x (defArgs s) (defBody s) (defScope s) .none kV doc pm an cdv ct) ⟨us, []⟩ = pure (ps.zip us)) : DfL K mg x s ps (He.cT K (x, none)).1 := by
  obtain ⟨oc, od, dV, kV, doc, pm, an, cdv, ct, osl, e, lk, hcd, hd, hk⟩ := F.ex
  have e2 : dV = .none := by
    rcases hd with ⟨_, hd⟩ | ⟨hd, _⟩
    · exact hd
    · exact absurd rfl hd
  subst e2 e
  obtain ⟨c, ec⟩ := He.codeIn_ref hcd
  subst ec
  have e3 : He.codeOf K (x, none) = c := He.codeOf_eq lk rfl
  show DfL K mg x s ps (He.codeOf K (x, none))
  rw [e3]
  exact ⟨He.ga K x, oc, od, kV, doc, pm, an, ct, osl, lk, hcd, F.kp, He.glo_ok X G a, b kV doc pm an (.ref c) ct⟩
theorem dm_fund {K : PySem.W.Frag} {c m : Str} {qual : Str} {s : Stmt} {ps : List Str} {fd : FuncData} (F : FunD K m qual (defArgs s) (defBody s) (defScope s) [] [] (He.fAd K (c, some m)) fd) (a : (He.Fa.meth c m).ok K = true)
    (b : ∀ (kV doc pm : Value) (an : Option Addr) (cdv ct : Value) (us : List Value), us.length = ps.length → bindArgs (PySem.W.fnOf m qual (defArgs s) (defBody s) (defScope s) .none kV doc pm an cdv ct) ⟨us, []⟩ = pure (ps.zip us)) : Dm K (He.ga K c) m qual s ps := by
  obtain ⟨oc, od, dV, kV, doc, pm, an, cdv, ct, osl, e, lk, hcd, hd, hk⟩ := F.ex
  have e2 : dV = .none := by
    rcases hd with ⟨_, hd⟩ | ⟨hd, _⟩
    · exact hd
    · exact absurd rfl hd
  subst e2 e
  exact ⟨He.ma K (He.ga K c) m, _, ⟨⟨oc, od, kV, doc, pm, an, cdv, ct, osl, rfl, lk, hcd⟩, F.kp⟩, He.meth_ok a, b kV doc pm an cdv ct⟩
theorem kst_strF {K : PySem.W.Frag} {h : Heap} {mg : Str → Option Value} {x z : Str} (X : K.In h) (G : h.Ns mainGlobals mg) (a : (He.Fa.str x z).ok K = true) : Kst g mg x (.str z) := by
  obtain ⟨t, e⟩ := He.str_ok X G a
  exact ⟨.str z, _, e, ⟨t, rfl⟩, fun _ _ => rfl⟩
theorem kst_intF {K : PySem.W.Frag} {h : Heap} {mg : Str → Option Value} {x : Str} {z : Int} (X : K.In h) (G : h.Ns mainGlobals mg) (a : (He.Fa.int x z).ok K = true) : Kst g mg x (.int z) := by
  obtain ⟨t, e⟩ := He.int_ok X G a
  exact ⟨.int z, _, e, ⟨t, rfl⟩, fun _ _ => rfl⟩
def tupOkB (K : PySem.W.Frag) (x : Str) (xs : List Str) : Bool := (match PySem.W.nsIn K mainGlobals x with
  | some (some (.ref f)) => (match K.lookup f with
    | some ⟨.type T, _, .seq its _, _⟩ => decide (T = "tuple") && (strTup its.toList xs && decide (its.size ≤ 1000))
    | _ => false)
  | _ => false)
theorem kst_tupB {K : PySem.W.Frag} {h : Heap} {mg : Str → Option Value} {x : Str} {xs : List Str} (hK : g.K = K) (X : K.In h) (G : h.Ns mainGlobals mg) (e : tupOkB K x xs = true) : Kst g mg x (.tup (xs.map D.str)) := by
  unfold tupOkB at e
  split at e
  · rename_i f hf
    split at e
    · rename_i T od its n sl hl
      simp only [Bool.and_eq_true] at e
      have hT : T = "tuple" := of_decide_eq_true e.1
      subst hT
      exact kst_tup hK X G hf hl e.2.1 e.2.2
    · cases e
  · cases e
def nodupB (l : List Addr) : Bool := decide l.Nodup
theorem cs_of {K : PySem.W.Frag} {h : Heap} {mg : Str → Option Value} {x : Str} {fs : List Str} {c : Nat} (hK : g.K = K) (hc : g.ca c = He.ga K x) (X : K.In h) (G : h.Ns mainGlobals mg) (a : (He.Fa.glo x).ok K = true) (b : (He.Fa.cls x).ok K = true) (d : (He.Fa.mkr x).ok K = true) (n : fs.all (fun f => (He.Fa.noat x f).ok K) = true) : Cs g mg c x fs := by
  have M := He.mkr_ok d
  refine ⟨by rw [hK, hc]; exact He.cls_ok b, by rw [hK, hc]; exact M.makes, by rw [hK, hc]; exact M.kp, by rw [hc]; exact He.glo_ok X G a, fun f hf => ?_⟩
  rw [hK, hc]
  exact He.noat_ok (List.all_eq_true.mp n f hf)
theorem excK_ofA {K : PySem.W.Frag} {h : Heap} {mg : Str → Option Value} {x : Str} {C : Addr} (X : K.In h) (G : h.Ns mainGlobals mg) (e : excOne K C = true) (hC : C = He.ga K x) (a : (He.Fa.glo x).ok K = true) : ExcK K mg x C := by
  subst hC
  exact excK_of X G (cs := [He.ga K x]) (by unfold excAll; simp [e]) List.mem_cons_self (He.eqO_ok a)
end Hw
/-! HwZ: a rule a method, a chain. -/
namespace Hw
open PySem PySem.Spec PyProof.Rows L2
variable {g : G} {E : XK} {X : Cx} {a b c e : Expr} {es : List Expr} {f k m : FE} {fa : FA} {pos p apos cpos : Pos}
theorem sm0_isalpha (ho : SE g E X a f) (hbase : attributeBase a "isalpha" X.env (eval a X.env) = eval a X.env := by rfl) (hline : (apos.endLine == cpos.line) = true := by rfl) : SE g E X (.Call (.Attribute a "isalpha" apos) [] [] cpos) (fM0 .str dIsalpha f) := se_m0 (T := .str) F.plainAttrs_str F.slot_str_isalpha F.type_str_isalpha mt_isalpha sm_isalpha ho hbase hline
theorem sm0_isdigit (ho : SE g E X a f) (hbase : attributeBase a "isdigit" X.env (eval a X.env) = eval a X.env := by rfl) (hline : (apos.endLine == cpos.line) = true := by rfl) : SE g E X (.Call (.Attribute a "isdigit" apos) [] [] cpos) (fM0 .str dIsdigit f) := se_m0 (T := .str) F.plainAttrs_str F.slot_str_isdigit F.type_str_isdigit mt_isdigit sm_isdigit ho hbase hline
theorem mt_popA : MtR X "list.pop" (fun x xs H Q => rPop x xs H Q ∨ rPopAt x xs H Q) := fun pins s σ H x xs v us Q I rx rs h => h.elim (mt_pop pins s σ H x xs v us Q I rx rs) (mt_popAt pins s σ H x xs v us Q I rx rs)
theorem sm0_pop (ho : SE g E X a f) (hbase : attributeBase a "pop" X.env (eval a X.env) = eval a X.env := by rfl) (hline : (apos.endLine == cpos.line) = true := by rfl) : SE g E X (.Call (.Attribute a "pop" apos) [] [] cpos) (fM0 .lst dPop f) := se_m0 (T := .lst) F.plainAttrs_list F.slot_list_pop F.type_list_pop mt_popA sm_pop ho hbase hline
theorem sm1_pop (ho : SE g E X a f) (ha : SA g E X (e :: es) fa) (hbase : attributeBase a "pop" X.env (eval a X.env) = eval a X.env := by rfl) (hfew : ((backTo cpos (starEach (e :: es) X.env)).all (fun x => !x.1) && (backToKw cpos (keywordEach [] X.env)).all (fun x => x.1.isSome) && decide ((e :: es).length + ([] : List Keyword).length + (if ([] : List Keyword).isEmpty then 0 else 1) < 30)) = true := by rfl) (hline : (apos.endLine == cpos.line) = true := by rfl) (hs : starEach (e :: es) X.env = (false, eval e X.env) :: starEach es X.env := by rfl) (hplain : (backTo cpos (starEach es X.env)).any (·.1) = false := by rfl) : SE g E X (.Call (.Attribute a "pop" apos) (e :: es) [] cpos) (fM .lst dPop f fa) := .mk fun hK => se_m (T := .lst) F.plainAttrs_list F.slot_list_pop F.type_list_pop mt_popA sm_pop ho ha hbase hfew hline hs hplain hK
theorem sm1_extend (ho : SE g E X a f) (ha : SA g E X (e :: es) fa) (hbase : attributeBase a "extend" X.env (eval a X.env) = eval a X.env := by rfl) (hfew : ((backTo cpos (starEach (e :: es) X.env)).all (fun x => !x.1) && (backToKw cpos (keywordEach [] X.env)).all (fun x => x.1.isSome) && decide ((e :: es).length + ([] : List Keyword).length + (if ([] : List Keyword).isEmpty then 0 else 1) < 30)) = true := by rfl) (hline : (apos.endLine == cpos.line) = true := by rfl) (hs : starEach (e :: es) X.env = (false, eval e X.env) :: starEach es X.env := by rfl) (hplain : (backTo cpos (starEach es X.env)).any (·.1) = false := by rfl) : SE g E X (.Call (.Attribute a "extend" apos) (e :: es) [] cpos) (fM .lst dExtend f fa) := .mk fun hK => se_m (T := .lst) F.plainAttrs_list F.slot_list_extend F.type_list_extend mt_extD (sm_extend hK) ho ha hbase hfew hline hs hplain hK
theorem sm1_find (ho : SE g E X a f) (ha : SA g E X (e :: es) fa) (hbase : attributeBase a "find" X.env (eval a X.env) = eval a X.env := by rfl) (hfew : ((backTo cpos (starEach (e :: es) X.env)).all (fun x => !x.1) && (backToKw cpos (keywordEach [] X.env)).all (fun x => x.1.isSome) && decide ((e :: es).length + ([] : List Keyword).length + (if ([] : List Keyword).isEmpty then 0 else 1) < 30)) = true := by rfl) (hline : (apos.endLine == cpos.line) = true := by rfl) (hs : starEach (e :: es) X.env = (false, eval e X.env) :: starEach es X.env := by rfl) (hplain : (backTo cpos (starEach es X.env)).any (·.1) = false := by rfl) : SE g E X (.Call (.Attribute a "find" apos) (e :: es) [] cpos) (fM .str dFind f fa) := .mk fun hK => se_m (T := .str) F.plainAttrs_str F.slot_str_find F.type_str_find mt_findA sm_find ho ha hbase hfew hline hs hplain hK
theorem sm1_split (ho : SE g E X a f) (ha : SA g E X (e :: es) fa) (hbase : attributeBase a "split" X.env (eval a X.env) = eval a X.env := by rfl) (hfew : ((backTo cpos (starEach (e :: es) X.env)).all (fun x => !x.1) && (backToKw cpos (keywordEach [] X.env)).all (fun x => x.1.isSome) && decide ((e :: es).length + ([] : List Keyword).length + (if ([] : List Keyword).isEmpty then 0 else 1) < 30)) = true := by rfl) (hline : (apos.endLine == cpos.line) = true := by rfl) (hs : starEach (e :: es) X.env = (false, eval e X.env) :: starEach es X.env := by rfl) (hplain : (backTo cpos (starEach es X.env)).any (·.1) = false := by rfl) : SE g E X (.Call (.Attribute a "split" apos) (e :: es) [] cpos) (fM .str dSplit f fa) := .mk fun hK => se_m (T := .str) F.plainAttrs_str F.slot_str_split F.type_str_split mt_split sm_split ho ha hbase hfew hline hs hplain hK
theorem sm1_partition (ho : SE g E X a f) (ha : SA g E X (e :: es) fa) (hbase : attributeBase a "partition" X.env (eval a X.env) = eval a X.env := by rfl) (hfew : ((backTo cpos (starEach (e :: es) X.env)).all (fun x => !x.1) && (backToKw cpos (keywordEach [] X.env)).all (fun x => x.1.isSome) && decide ((e :: es).length + ([] : List Keyword).length + (if ([] : List Keyword).isEmpty then 0 else 1) < 30)) = true := by rfl) (hline : (apos.endLine == cpos.line) = true := by rfl) (hs : starEach (e :: es) X.env = (false, eval e X.env) :: starEach es X.env := by rfl) (hplain : (backTo cpos (starEach es X.env)).any (·.1) = false := by rfl) : SE g E X (.Call (.Attribute a "partition" apos) (e :: es) [] cpos) (fM .str dPartition f fa) := .mk fun hK => se_m (T := .str) F.plainAttrs_str F.slot_str_partition F.type_str_partition mt_partition sm_partition ho ha hbase hfew hline hs hplain hK
theorem sm1_startswith (ho : SE g E X a f) (ha : SA g E X (e :: es) fa) (hbase : attributeBase a "startswith" X.env (eval a X.env) = eval a X.env := by rfl) (hfew : ((backTo cpos (starEach (e :: es) X.env)).all (fun x => !x.1) && (backToKw cpos (keywordEach [] X.env)).all (fun x => x.1.isSome) && decide ((e :: es).length + ([] : List Keyword).length + (if ([] : List Keyword).isEmpty then 0 else 1) < 30)) = true := by rfl) (hline : (apos.endLine == cpos.line) = true := by rfl) (hs : starEach (e :: es) X.env = (false, eval e X.env) :: starEach es X.env := by rfl) (hplain : (backTo cpos (starEach es X.env)).any (·.1) = false := by rfl) : SE g E X (.Call (.Attribute a "startswith" apos) (e :: es) [] cpos) (fM .str dStartswith f fa) := .mk fun hK => se_m (T := .str) F.plainAttrs_str F.slot_str_startswith F.type_str_startswith mt_startswith sm_startswith ho ha hbase hfew hline hs hplain hK
theorem se_chainLeLe (hu : X.A.units + 64 < cLine) (ha : SE g E X a f) (hb : SE g E X b k) (hc : SE g E X c m) (hm : lastMarks [.LtE, .LtE] [b, c] = false := by with_unfolding_all rfl) : SE g E X (.Compare a [.LtE, .LtE] [b, c] pos) (fChain (dOrd iLe) (dOrd iLe) f k m) := .mk fun hK => se_chain op_le sop_ord op_le sop_ord ha hb hc hm hK
theorem st_chainLeLe (hu : X.A.units + 64 < cLine) (ha : SE g E X a f) (hb : SE g E X b k) (hc : SE g E X c m) (hm : lastMarks [.LtE, .LtE] [b, c] = false := by with_unfolding_all rfl) : ST g E X (.Compare a [.LtE, .LtE] [b, c] pos) (fTru (fChain (dOrd iLe) (dOrd iLe) f k m)) := .mk fun hK => st_chain op_le sop_ord op_le sop_ord ha hb hc hm hK
theorem se_chainEqEq (hu : X.A.units + 64 < cLine) (ha : SE g E X a f) (hb : SE g E X b k) (hc : SE g E X c m) (hm : lastMarks [.Eq, .Eq] [b, c] = false := by with_unfolding_all rfl) : SE g E X (.Compare a [.Eq, .Eq] [b, c] pos) (fChain dEq dEq f k m) := .mk fun hK => se_chain (op_eqD hu) (sop_eq hK) (op_eqD hu) (sop_eq hK) ha hb hc hm hK
theorem st_chainEqEq (hu : X.A.units + 64 < cLine) (ha : SE g E X a f) (hb : SE g E X b k) (hc : SE g E X c m) (hm : lastMarks [.Eq, .Eq] [b, c] = false := by with_unfolding_all rfl) : ST g E X (.Compare a [.Eq, .Eq] [b, c] pos) (fTru (fChain dEq dEq f k m)) := .mk fun hK => st_chain (op_eqD hu) (sop_eq hK) (op_eqD hu) (sop_eq hK) ha hb hc hm hK
theorem se_chainLtLt (hu : X.A.units + 64 < cLine) (ha : SE g E X a f) (hb : SE g E X b k) (hc : SE g E X c m) (hm : lastMarks [.Lt, .Lt] [b, c] = false := by with_unfolding_all rfl) : SE g E X (.Compare a [.Lt, .Lt] [b, c] pos) (fChain (dOrd iLt) (dOrd iLt) f k m) := .mk fun hK => se_chain op_lt sop_ord op_lt sop_ord ha hb hc hm hK
theorem st_chainLtLt (hu : X.A.units + 64 < cLine) (ha : SE g E X a f) (hb : SE g E X b k) (hc : SE g E X c m) (hm : lastMarks [.Lt, .Lt] [b, c] = false := by with_unfolding_all rfl) : ST g E X (.Compare a [.Lt, .Lt] [b, c] pos) (fTru (fChain (dOrd iLt) (dOrd iLt) f k m)) := .mk fun hK => st_chain op_lt sop_ord op_lt sop_ord ha hb hc hm hK
theorem se_chainLeLt (hu : X.A.units + 64 < cLine) (ha : SE g E X a f) (hb : SE g E X b k) (hc : SE g E X c m) (hm : lastMarks [.LtE, .Lt] [b, c] = false := by with_unfolding_all rfl) : SE g E X (.Compare a [.LtE, .Lt] [b, c] pos) (fChain (dOrd iLe) (dOrd iLt) f k m) := .mk fun hK => se_chain op_le sop_ord op_lt sop_ord ha hb hc hm hK
theorem st_chainLeLt (hu : X.A.units + 64 < cLine) (ha : SE g E X a f) (hb : SE g E X b k) (hc : SE g E X c m) (hm : lastMarks [.LtE, .Lt] [b, c] = false := by with_unfolding_all rfl) : ST g E X (.Compare a [.LtE, .Lt] [b, c] pos) (fTru (fChain (dOrd iLe) (dOrd iLt) f k m)) := .mk fun hK => st_chain op_le sop_ord op_lt sop_ord ha hb hc hm hK
end Hw
/-! HwK: which slots a statement leaves as they are: the later statements. -/
namespace Hw
open PySem PySem.Spec PyProof.Rows L2
theorem kp_dput {vs fd fk fv} : Kp vs (sDPutE fd fk fv) := fun σ st => kp_thn fun v st1 => kp_thn fun x st2 => kp_thn fun y st3 => by
  repeat' split
  all_goals first | trivial | exact fun _ _ => rfl
theorem kp_fld {vs c nm fo fv} : Kp vs (sFldE c nm fo fv) := fun σ st => kp_thn fun v st1 => kp_thn fun x st2 => by
  repeat' split
  all_goals first | trivial | exact fun _ _ => rfl
theorem kp_forK {vs : List Nat} {i} {T : Tg} {b : FS} (hT : T.ix.all (vs.contains ·) = true) (hb : Kp vs b) : Kp vs (sForK i T b) := fun σ st => by
  unfold sForK
  split
  · exact kp_loop hT hb _ σ st
  · trivial
end Hw
/-! HwL: list(range(a, b)), the greatest of a list. -/
namespace Hw
open PySem PySem.Spec PyProof.Rows L2
variable {g : G} {ρ ρ' ρ'' : Pl} {H H' H'' : Hp} {E : XK} {X : Cx} {a b e : Expr} {es : List Expr} {f k : FE} {fa : FA} {p p2 pos pos2 : Pos}
theorem rgV_of (i j : Int) : (rangeD i j).length = (j - i).toNat := by simp [rangeD]
theorem Rps.range (i j : Int) : Rps g ρ H (rangeD i j) (rgV i j) := by
  have h : ∀ l : List Nat, Rps g ρ H (l.map fun n => D.int (i + (n : Nat))) (l.map fun n => V.int (i + (n : Nat))) := by
    intro l
    induction l with
    | nil => rfl
    | cons x l ih => exact ⟨_, _, rfl, rfl, ih⟩
  exact h _
def fListR (fa fb : FE) : FE := fun σ st => (fa σ st).bind fun x st1 => (fb σ st1).bind fun y st2 => match x, y with
  | .int i, .int j => if rngOk i && rngOk j then .ok (.lst (rangeD i j)) st2 else .stk
  | _, _ => .stk
def fListRM (fa fb : FE) : FE := fun σ st => (fa σ st).bind fun x st1 => (fb σ st1).bind fun y st2 => match x, y with
  | .int i, .int j => if rngOk i && rngOk j then .ok (.loc st2.length) (st2 ++ [.lst (rangeD i j)]) else .stk
  | _, _ => .stk
theorem rg_ok {i j : Int} (h : (rngOk i && rngOk j) = true) : RgOk i j := by
  simp only [Bool.and_eq_true, rngOk, decide_eq_true_eq] at h
  exact ⟨by omega, by omega, by omega, by omega, by omega⟩
theorem se_listR (hc : X.calm = true) (hg : Gl X "list") (hm : X.mg "list" = none) (hg2 : Gl X "range") (hm2 : X.mg "range" = none) (ha : SE g E X a f) (hb : SE g E X b k) (hp : (backTo pos2 (starEach [b] X.env)).any (·.1) = false := by rfl) (na : starEach [a, b] X.env = (false, eval a X.env) :: starEach [b] X.env := by rfl)
    (nb : starEach [b] X.env = (false, eval b X.env) :: starEach [] X.env := by rfl) (nr : starEach [.Call (.Name "range" p2) [a, b] [] pos2] X.env = (false, eval (.Call (.Name "range" p2) [a, b] [] pos2) X.env) :: starEach [] X.env := by rfl) :
    SE g E X (.Call (.Name "list" p) [.Call (.Name "range" p2) [a, b] [] pos2] [] pos) (fListR f k) := .mk fun hK tk σ st σV H ρ Q er sr h =>
  mx_of (pe_listRg hc hg hm (prg_2 hg2 hm2 (pe_mx (e := a)) (pe_mx (e := b)) na nb hp) nr) (ha hK tk σ st σV H ρ _ er sr (Ok1.bind h fun x st1 v H1 ρ1 l1 s1 r1 h1 => hb hK tk σ st1 σV H1 ρ1 _ (er.mono l1) s1 (Ok1.bind h1 fun y st2 u H2 ρ2 l2 s2 r2 h2 => by
    split at h2
    · rename_i i j
      by_cases hs : (rngOk i && rngOk j) = true
      · rw [if_pos hs] at h2
        cases (show v = .int i from r1)
        cases (show u = .int j from r2)
        exact ⟨i, j, rfl, rfl, rg_ok hs, fun q hq => h2 _ _ ρ2 (s2.leLay hq) (s2.lay hq) (Rp.of_lst s2 hq (Rps.range i j))⟩
      · rw [if_neg hs] at h2
        exact h2.elim
    · exact h2.elim)))
theorem se_listRM (hc : X.calm = true) (hg : Gl X "list") (hm : X.mg "list" = none) (hg2 : Gl X "range") (hm2 : X.mg "range" = none) (ha : SE g E X a f) (hb : SE g E X b k) (hp : (backTo pos2 (starEach [b] X.env)).any (·.1) = false := by rfl) (na : starEach [a, b] X.env = (false, eval a X.env) :: starEach [b] X.env := by rfl)
    (nb : starEach [b] X.env = (false, eval b X.env) :: starEach [] X.env := by rfl) (nr : starEach [.Call (.Name "range" p2) [a, b] [] pos2] X.env = (false, eval (.Call (.Name "range" p2) [a, b] [] pos2) X.env) :: starEach [] X.env := by rfl) :
    SE g E X (.Call (.Name "list" p) [.Call (.Name "range" p2) [a, b] [] pos2] [] pos) (fListRM f k) := .mk fun hK tk σ st σV H ρ Q er sr h =>
  mx_of (pe_listRg hc hg hm (prg_2 hg2 hm2 (pe_mx (e := a)) (pe_mx (e := b)) na nb hp) nr) (ha hK tk σ st σV H ρ _ er sr (Ok1.bind h fun x st1 v H1 ρ1 l1 s1 r1 h1 => hb hK tk σ st1 σV H1 ρ1 _ (er.mono l1) s1 (Ok1.bind h1 fun y st2 u H2 ρ2 l2 s2 r2 h2 => by
    split at h2
    · rename_i i j
      by_cases hs : (rngOk i && rngOk j) = true
      · rw [if_pos hs] at h2
        cases (show v = .int i from r1)
        cases (show u = .int j from r2)
        exact ⟨i, j, rfl, rfl, rg_ok hs, fun q hq => h2 _ _ (ρ2.push q) (s2.leNew hq) (s2.newLst hq (Rps.range i j)) (Rp.of_loc s2)⟩
      · rw [if_neg hs] at h2
        exact h2.elim
    · exact h2.elim)))
/-- max(xs), whole numbers -/
def maxI : List Int → Int
  | [] => 0
  | [x] => x
  | x :: y :: r => max x (maxI (y :: r))
theorem maxI_mem : ∀ {xs : List Int}, xs ≠ [] → maxI xs ∈ xs
  | [], h => absurd rfl h
  | [x], _ => List.mem_singleton.mpr rfl
  | x :: y :: r, _ => by
    have ih := maxI_mem (xs := y :: r) (by simp)
    show max x (maxI (y :: r)) ∈ _
    rcases Int.le_total x (maxI (y :: r)) with h | h
    · rw [Int.max_eq_right h]; exact List.mem_cons_of_mem _ ih
    · rw [Int.max_eq_left h]; exact List.mem_cons_self
theorem maxI_le : ∀ {xs : List Int} {z : Int}, z ∈ xs → z ≤ maxI xs
  | [x], z, h => by rw [List.mem_singleton.mp h]; exact Int.le_refl _
  | x :: y :: r, z, h => by
    show z ≤ max x (maxI (y :: r))
    rcases List.mem_cons.mp h with h | h
    · rw [h]; exact Int.le_max_left _ _
    · exact Int.le_trans (maxI_le h) (Int.le_max_right _ _)
def dMaxL (xs : List D) (st : Store) : Option (D × Store) := match xs with
  | [d] => (listOf st d).bind fun ys => (intsOf ys).bind fun ns => if ns.isEmpty then none else some (.int (maxI ns), st)
  | _ => none
theorem sc_maxL : SC g (rMax g.K) dMaxL := by
  intro xs z st st' ρ H vs Q sr r h q
  unfold dMaxL at h
  split at h
  · rw [Option.bind_eq_some_iff] at h
    obtain ⟨ys, h1, h⟩ := h
    rw [Option.bind_eq_some_iff] at h
    obtain ⟨ns, h2, h3⟩ := h
    by_cases hn : ns.isEmpty = true
    · rw [if_pos hn] at h3; cases h3
    · rw [if_neg hn] at h3
      cases h3
      have hn : ns ≠ [] := fun e => hn (by rw [e]; rfl)
      obtain ⟨v, e, r1⟩ := r.un1
      obtain ⟨a, ws, e1, t, s⟩ := listOf_ok sr r1 h1
      refine ⟨a, ns, by rw [e, e1], by rw [← intsOf_ok s h2]; exact .inl t, List.length_pos_iff.mpr hn, fun m hm hle => ?_⟩
      have : m = maxI ns := Int.le_antisymm (maxI_le hm) (hle _ (maxI_mem hn))
      rw [this]
      exact q _ H ρ (Le.refl _ _) sr rfl
  · cases h
theorem sf_maxL (hc : X.calm = true) (hg : Gl X "max") (hm : X.mg "max" = none) (ha : SA g E X (e :: es) fa) (he : starEach (e :: es) X.env = (false, eval e X.env) :: starEach es X.env := by rfl) (hpl : (backTo pos (starEach es X.env)).any (·.1) = false := by rfl) : SE g E X (.Call (.Name "max" p) (e :: es) [] pos) (fCB dMaxL fa) := .mk fun hK => se_cb (hK ▸ cr_max hc) sc_maxL hg hm bb_max ha (by decide) (by decide) he hpl hK
end Hw
/-! PgA: the terms of the defs that the laws share (printed by mkpg.py). -/
namespace Pg
open PySem PySem.Spec PyProof.Rows L2 Hw
def b_law_drawn : FS :=
  sSeq (sSet 2 (fOp dMod (fOp dAdd (fOp dMul2 (fVar 0) (fC (.int 6364136223846793005))) (fOp dMul2 (fOp dAdd (fVar 1) (fC (.int 1))) (fC (.int 1442695040888963407)))) (fC (.int 340282366920938463463374607431768211507)))) <|
  sSeq (sSet 2 (fOp dMod (fOp dMul2 (fVar 2) (fVar 2)) (fC (.int 340282366920938463463374607431768211297)))) <|
  sSeq (sSet 2 (fOp dMul2 (fOp dMul2 (fOp dAdd (fOp dMod (fVar 2) (fC (.int 18446744073709551557))) (fC (.int 1))) (fOp dAdd (fOp dDiv (fVar 2) (fC (.int 18446744073709551557))) (fC (.int 1)))) (fVar 2))) <|
  sRet (fOp dMod (fVar 2) (fC (.int 340282366920938463463374607431768211507)))
def c_law_drawn : List D → Store → R D := callB 3 b_law_drawn
def b_law_cell : FS :=
  sSeq (sIf (fTru (fOp dEq (fVar 0) (fLst (fNil)))) (sRet (fOp dMul2 (fVar 1) (fC (.int 7919)))) (sNil)) <|
  sRet (fOp dAdd (fOp dIx2 (fVar 0) (fOp dMod (fVar 1) (fCB dLen2 (fCons (fVar 0) (fNil))))) (fOp dMul2 (fOp dDiv (fVar 1) (fCB dLen2 (fCons (fVar 0) (fNil)))) (fC (.int 104729))))
def c_law_cell : List D → Store → R D := callB 2 b_law_cell
def b_law_signs : FS :=
  sSeq (sSet 3 (fOp dAdd (fVar 1) (fOp dMod (fVar 0) (fOp dAdd (fOp dSub (fVar 2) (fVar 1)) (fC (.int 1)))))) <|
  sRet (fM .str dJoin (fC (.str "")) (fCons (fLc (fRange1 (fCons (fVar 3) (fNil))) (.nm 4) (fYes) (fOp dIx2 (fC (.str "abcABC1 _-.z")) (fOp dMod (fOp dDiv (fCall c_law_drawn (fCons (fVar 0) (fCons (fVar 4) (fNil)))) (fC (.int 8))) (fC (.int 12)))) [4]) (fNil)))
def c_law_signs : List D → Store → R D := callB 5 b_law_signs
def b_law_own_parts_l1 (r_law_own_parts : List D → Store → R D) : FS :=
  sWp [4, 5, 6, 7, 8, 9] (sSeq (sSet 5 (fCall c_law_drawn (fCons (fVar 0) (fCons (fVar 4) (fNil))))) <|
  sSeq (sSet 6 (fOp dIx2 (fLst (fCons (fC (.str "text")) (fCons (fC (.str "hole")) (fCons (fC (.str "same")) (fCons (fC (.str "choice")) (fCons (fC (.str "text")) (fCons (fC (.str "hole")) (fNil)))))))) (fOp dMod (fOp dDiv (fVar 5) (fC (.int 8))) (fC (.int 6))))) <|
  sSeq (sIf (fTru (fOp (dOrd iLt) (fOp dIx2 (fVar 1) (fC (.str "left"))) (fC (.int 1)))) (sRet (fCB dTuple (fCons (fVar 3) (fNil)))) (sNil)) <|
  sSeq (sIf (fAnd (fTru (fOp dEq (fVar 6) (fC (.str "text")))) (fOr (fTru (fOp dEq (fVar 3) (fLst (fNil)))) (fTru (fOp dNe (fOp dIx2 (fOp dIx2 (fVar 3) (fNeg (fC (.int 1)))) (fC (.int 0))) (fC (.str "text")))))) (sDrop (fM .lst dAppend (fVar 3) (fCons (fTup (fCons (fC (.str "text")) (fCons (fCall c_law_signs (fCons (fOp dDiv (fVar 5) (fC (.int 64))) (fCons (fC (.int 1)) (fCons (fOp dIx2 (fLst (fCons (fC (.int 3)) (fCons (fC (.int 12)) (fNil)))) (fOp dMod (fOp dDiv (fVar 5) (fOp dPow (fC (.int 2)) (fC (.int 40)))) (fC (.int 2)))) (fNil))))) (fNil)))) (fNil)))) (sIf (fAnd (fTru (fOp dEq (fVar 6) (fC (.str "hole")))) (fAnd (fTru (fOp (dOrd iGt) (fVar 2) (fC (.int 0)))) (fTru (fOp (dOrd iLt) (fOp dIx2 (fVar 1) (fC (.str "next"))) (fC (.int 8)))))) (sSeq (sSet 7 (fOp dIx2 (fVar 1) (fC (.str "next")))) <|
  sSeq (sDPutE (fVar 1) (fC (.str "next")) (fOp dAdd (fVar 7) (fC (.int 1)))) <|
  sSeq (sDPutE (fVar 1) (fC (.str "left")) (fOp dSub (fOp dIx2 (fVar 1) (fC (.str "left"))) (fC (.int 1)))) <|
  sSeq (sDrop (fM .lst dAppend (fVar 3) (fCons (fTup (fCons (fC (.str "hole")) (fCons (fVar 7) (fCons (fCall r_law_own_parts (fCons (fCall c_law_drawn (fCons (fVar 5) (fCons (fC (.int 1)) (fNil)))) (fCons (fVar 1) (fCons (fOp dSub (fVar 2) (fC (.int 1))) (fNil))))) (fNil))))) (fNil)))) <|
  sSeq (sDrop (fM .lst dAppend (fOp dIx2 (fVar 1) (fC (.str "closed"))) (fCons (fVar 7) (fNil)))) <|
  sDPutE (fVar 1) (fC (.str "left")) (fOp dAdd (fOp dIx2 (fVar 1) (fC (.str "left"))) (fC (.int 1)))) (sIf (fAnd (fTru (fOp dEq (fVar 6) (fC (.str "choice")))) (fTru (fOp (dOrd iLt) (fOp dIx2 (fVar 1) (fC (.str "next"))) (fC (.int 8))))) (sSeq (sSet 8 (fLc (fRange1 (fCons (fOp dAdd (fC (.int 2)) (fOp dMod (fOp dDiv (fVar 5) (fC (.int 64))) (fC (.int 3)))) (fNil))) (.nm 10) (fYes) (fCall c_law_signs (fCons (fCall c_law_drawn (fCons (fVar 5) (fCons (fOp dAdd (fC (.int 20)) (fVar 10)) (fNil)))) (fCons (fC (.int 1)) (fCons (fC (.int 5)) (fNil))))) [10])) <|
  sSeq (sSet 8 (fLc (fEnum (fVar 8)) (.tp [10, 11]) (fYes) (fOp dAdd (fVar 11) (fOp dIx2 (fC (.str "abcd")) (fVar 10))) [10, 11])) <|
  sSeq (sDrop (fM .lst dAppend (fVar 3) (fCons (fTup (fCons (fC (.str "choice")) (fCons (fOp dIx2 (fVar 1) (fC (.str "next"))) (fCons (fCB dTuple (fCons (fVar 8) (fNil))) (fNil))))) (fNil)))) <|
  sSeq (sDrop (fM .lst dAppend (fOp dIx2 (fVar 1) (fC (.str "closed"))) (fCons (fOp dIx2 (fVar 1) (fC (.str "next"))) (fNil)))) <|
  sDPutE (fVar 1) (fC (.str "next")) (fOp dAdd (fOp dIx2 (fVar 1) (fC (.str "next"))) (fC (.int 1)))) (sIf (fAnd (fTru (fOp dEq (fVar 6) (fC (.str "same")))) (fTru (fOp dNe (fOp dIx2 (fVar 1) (fC (.str "closed"))) (fLst (fNil))))) (sSeq (sSet 9 (fOp dIx2 (fLst (fCons (fC (.str "same")) (fCons (fC (.str "up")) (fCons (fC (.str "low")) (fCons (fC (.str "head")) (fCons (fC (.str "words")) (fNil))))))) (fOp dMod (fOp dDiv (fVar 5) (fC (.int 64))) (fC (.int 5))))) <|
  sDrop (fM .lst dAppend (fVar 3) (fCons (fTup (fCons (fC (.str "same")) (fCons (fOp dIx2 (fOp dIx2 (fVar 1) (fC (.str "closed"))) (fOp dMod (fOp dDiv (fVar 5) (fC (.int 512))) (fCB dLen2 (fCons (fOp dIx2 (fVar 1) (fC (.str "closed"))) (fNil))))) (fCons (fVar 9) (fNil))))) (fNil)))) (sCnt))))) <|
  sDPutE (fVar 1) (fC (.str "left")) (fOp dSub (fOp dIx2 (fVar 1) (fC (.str "left"))) (fC (.int 1))))
def b_law_own_parts (r_law_own_parts : List D → Store → R D) : FS :=
  sSeq (sSet 3 (fLstM (fNil))) <|
  sSeq (sFor (fRange1 (fCons (fOp dMod (fVar 0) (fC (.int 5))) (fNil))) (.nm 4) (b_law_own_parts_l1 r_law_own_parts)) <|
  sRet (fCB dTuple (fCons (fVar 3) (fNil)))
def cF_law_own_parts : Nat → List D → Store → R D
  | 0 => fun _ _ => .stk
  | n + 1 => callB 12 (b_law_own_parts (cF_law_own_parts n))
abbrev c_law_own_parts : List D → Store → R D := cF_law_own_parts 16
def b_law_length_l1 (r_law_length : List D → Store → R D) : FS :=
  sWp [3, 4] (sSeq (sSet 4 (fIf (fTru (fOp dEq (fOp dIx2 (fVar 3) (fC (.int 0))) (fC (.str "text")))) (fCB dLen2 (fCons (fOp dIx2 (fVar 3) (fC (.int 1))) (fNil))) (fIf (fTru (fOp dEq (fOp dIx2 (fVar 3) (fC (.int 0))) (fC (.str "choice")))) (fCB dLen2 (fCons (fOp dIx2 (fOp dIx2 (fVar 3) (fC (.int 2))) (fC (.int 0))) (fNil))) (fC (.int 0))))) <|
  sSeq (sIf (fTru (fOp dEq (fOp dIx2 (fVar 3) (fC (.int 0))) (fC (.str "same")))) (sSet 4 (fGet2 (fVar 1) (fOp dIx2 (fVar 3) (fC (.int 1))) (fC (.int 0)))) (sNil)) <|
  sSeq (sIf (fTru (fOp dEq (fOp dIx2 (fVar 3) (fC (.int 0))) (fC (.str "hole")))) (sSet 4 (fCall r_law_length (fCons (fOp dIx2 (fVar 3) (fC (.int 2))) (fCons (fVar 1) (fNil))))) (sNil)) <|
  sSeq (sIf (fTru (fOp dIn2 (fOp dIx2 (fVar 3) (fC (.int 0))) (fTup (fCons (fC (.str "hole")) (fCons (fC (.str "choice")) (fNil)))))) (sDPutE (fVar 1) (fOp dIx2 (fVar 3) (fC (.int 1))) (fVar 4)) (sNil)) <|
  sSet 2 (fOp dAdd (fVar 2) (fVar 4)))
def b_law_length (r_law_length : List D → Store → R D) : FS :=
  sSeq (sSet 2 (fC (.int 0))) <|
  sSeq (sFor (fIter (fVar 0)) (.nm 3) (b_law_length_l1 r_law_length)) <|
  sRet (fVar 2)
def cF_law_length : Nat → List D → Store → R D
  | 0 => fun _ _ => .stk
  | n + 1 => callB 5 (b_law_length (cF_law_length n))
abbrev c_law_length : List D → Store → R D := cF_law_length 16
def b_law_called_l1 (r_law_called : List D → Store → R D) : FS :=
  sWp [3] (sIf (fTru (fOp dEq (fOp dIx2 (fVar 3) (fC (.int 0))) (fC (.str "text")))) (sDrop (fM .lst dAppend (fVar 2) (fCons (fVar 3) (fNil)))) (sIf (fTru (fOp dEq (fOp dIx2 (fVar 3) (fC (.int 0))) (fC (.str "hole")))) (sDrop (fM .lst dAppend (fVar 2) (fCons (fTup (fCons (fC (.str "hole")) (fCons (fOp dIx2 (fVar 1) (fOp dIx2 (fVar 3) (fC (.int 1)))) (fCons (fCall r_law_called (fCons (fOp dIx2 (fVar 3) (fC (.int 2))) (fCons (fVar 1) (fNil)))) (fNil))))) (fNil)))) (sDrop (fM .lst dAppend (fVar 2) (fCons (fTup (fCons (fOp dIx2 (fVar 3) (fC (.int 0))) (fCons (fOp dIx2 (fVar 1) (fOp dIx2 (fVar 3) (fC (.int 1)))) (fCons (fOp dIx2 (fVar 3) (fC (.int 2))) (fNil))))) (fNil))))))
def b_law_called (r_law_called : List D → Store → R D) : FS :=
  sSeq (sSet 2 (fLstM (fNil))) <|
  sSeq (sFor (fIter (fVar 0)) (.nm 3) (b_law_called_l1 r_law_called)) <|
  sRet (fCB dTuple (fCons (fVar 2) (fNil)))
def cF_law_called : Nat → List D → Store → R D
  | 0 => fun _ _ => .stk
  | n + 1 => callB 4 (b_law_called (cF_law_called n))
abbrev c_law_called : List D → Store → R D := cF_law_called 16
def b_law_is_text : FS :=
  sSeq (sIf (fOr (fNot (fTru (fIsi .str (fVar 0)))) (fNot (fTru (fChain (dOrd iLe) (dOrd iLe) (fVar 1) (fCB dLen2 (fCons (fVar 0) (fNil))) (fVar 2))))) (sRet (fC (.bl false))) (sNil)) <|
  sRet (fOp dEq (fLc (fIter (fVar 0)) (.nm 3) (fNot (fOr (fTru (fM0 .str dIsalpha (fVar 3))) (fOr (fTru (fM0 .str dIsdigit (fVar 3))) (fTru (fOp dIn2 (fVar 3) (fC (.str " _-.,;()=+*"))))))) (fVar 3) [3]) (fLst (fNil)))
def c_law_is_text : List D → Store → R D := callB 4 b_law_is_text
def b_law_others_right_l1 : FS :=
  sWp [1, 2] (sSeq (sIf (fTru (fOp dEq (fOp dIx2 (fVar 1) (fC (.int 0))) (fC (.str "choice")))) (sSeq (sIf (fOr (fNot (fTru (fIsi .tup (fOp dIx2 (fVar 1) (fC (.int 2)))))) (fOr (fNot (fTru (fChain (dOrd iLt) (dOrd iLt) (fC (.int 1)) (fCB dLen2 (fCons (fOp dIx2 (fVar 1) (fC (.int 2))) (fNil))) (fC (.int 5))))) (fTru (fOp dEq (fOp dIx2 (fVar 1) (fC (.int 1))) (fC (.int 0)))))) (sRet (fC (.bl false))) (sNil)) <|
  sIf (fOr (fTru (fOp dNe (fLc (fIter (fOp dIx2 (fVar 1) (fC (.int 2)))) (.nm 3) (fNot (fTru (fCall c_law_is_text (fCons (fVar 3) (fCons (fC (.int 1)) (fCons (fC (.int 12)) (fNil))))))) (fVar 3) [3]) (fLst (fNil)))) (fTru (fOp dNe (fLenSet (fOp dIx2 (fVar 1) (fC (.int 2)))) (fCB dLen2 (fCons (fOp dIx2 (fVar 1) (fC (.int 2))) (fNil)))))) (sRet (fC (.bl false))) (sNil)) (sNil)) <|
  sSeq (sIf (fTru (fOp dEq (fOp dIx2 (fVar 1) (fC (.int 0))) (fC (.str "same")))) (sIf (fOr (fTru (fOp dEq (fOp dIx2 (fVar 1) (fC (.int 1))) (fC (.int 0)))) (fOr (fNot (fTru (fIsi .str (fOp dIx2 (fVar 1) (fC (.int 2)))))) (fTru (fOp dNotIn2 (fOp dIx2 (fVar 1) (fC (.int 2))) (fLst (fCons (fC (.str "same")) (fCons (fC (.str "up")) (fCons (fC (.str "low")) (fCons (fC (.str "head")) (fCons (fC (.str "words")) (fNil))))))))))) (sRet (fC (.bl false))) (sNil)) (sNil)) <|
  sIf (fAnd (fTru (fOp dEq (fOp dIx2 (fVar 1) (fC (.int 0))) (fC (.str "hole")))) (fAnd (fTru (fOp dEq (fOp dIx2 (fVar 1) (fC (.int 1))) (fC (.int 0)))) (fOr (fTru (fOp dNe (fOp dIx2 (fVar 1) (fC (.int 2))) (fTup (fNil)))) (fTru (fOp dNe (fVar 2) (fLst (fNil))))))) (sRet (fC (.bl false))) (sNil))
def b_law_others_right : FS :=
  sSeq (sFor (fIter (fVar 0)) (.tp [1, 2]) (b_law_others_right_l1)) <|
  sRet (fC (.bl true))
def c_law_others_right : List D → Store → R D := callB 4 b_law_others_right
def b_is_text : FS :=
  sSeq (sIf (fOr (fNot (fTru (fIsi .str (fVar 0)))) (fNot (fTru (fChain (dOrd iLe) (dOrd iLe) (fVar 1) (fCB dLen2 (fCons (fVar 0) (fNil))) (fVar 2))))) (sRet (fC (.bl false))) (sNil)) <|
  sRet (fCB dAll (fCons (fLc (fIter (fVar 0)) (.nm 3) (fYes) (fOp dIn2 (fVar 3) (fOp dAdd (fOp dAdd (fOp dAdd (fC (.str "abcdefghijklmnopqrstuvwxyz")) (fC (.str "ABCDEFGHIJKLMNOPQRSTUVWXYZ"))) (fC (.str "0123456789"))) (fC (.str " _-.,;()=+*")))) [3]) (fNil)))
def c_is_text : List D → Store → R D := callB 4 b_is_text
def b_is_count : FS :=
  sRet (fAndV (fIsi .int (fVar 0)) (fAndV (fNotV (fIsi .bl (fVar 0))) (fChain (dOrd iLe) (dOrd iLe) (fVar 1) (fVar 0) (fVar 2))))
def c_is_count : List D → Store → R D := callB 3 b_is_count
def b_are_options : FS :=
  sSeq (sIf (fOr (fNot (fTru (fIsi .tup (fVar 0)))) (fNot (fTru (fChain (dOrd iLe) (dOrd iLe) (fC (.int 2)) (fCB dLen2 (fCons (fVar 0) (fNil))) (fC (.int 4)))))) (sRet (fC (.bl false))) (sNil)) <|
  sRet (fAndV (fCB dAll (fCons (fLc (fIter (fVar 0)) (.nm 1) (fYes) (fCall c_is_text (fCons (fVar 1) (fCons (fC (.int 1)) (fCons (fC (.int 12)) (fNil))))) [1]) (fNil))) (fOp dEq (fLenSet (fVar 0)) (fCB dLen2 (fCons (fVar 0) (fNil)))))
def c_are_options : List D → Store → R D := callB 2 b_are_options
def b_are_parts (r_is_part : List D → Store → R D) : FS :=
  sSeq (sIf (fNot (fTru (fIsi .tup (fVar 0)))) (sRet (fC (.bl false))) (sNil)) <|
  sSeq (sIf (fNot (fTru (fCB dAll (fCons (fLc (fIter (fVar 0)) (.nm 2) (fYes) (fCall r_is_part (fCons (fVar 2) (fCons (fVar 1) (fNil)))) [2]) (fNil))))) (sRet (fC (.bl false))) (sNil)) <|
  sRet (fNotV (fCB dAny (fCons (fLc (fZip (fCons (fSlice (fVar 0) (fNoPart) (fPart (fNeg (fC (.int 1))))) (fCons (fSlice (fVar 0) (fPart (fC (.int 1))) (fNoPart)) (fNil)))) (.tp [3, 4]) (fYes) (fChain dEq dEq (fOp dIx2 (fVar 3) (fC (.int 0))) (fC (.str "text")) (fOp dIx2 (fVar 4) (fC (.int 0)))) [3, 4]) (fNil))))
def b_is_part (r_are_parts : List D → Store → R D) : FS :=
  sSeq (sIf (fOr (fNot (fTru (fIsi .tup (fVar 0)))) (fOr (fTru (fOp (dOrd iLt) (fCB dLen2 (fCons (fVar 0) (fNil))) (fC (.int 2)))) (fNot (fTru (fIsi .str (fOp dIx2 (fVar 0) (fC (.int 0)))))))) (sRet (fC (.bl false))) (sNil)) <|
  sSeq (sIf (fTru (fOp dEq (fOp dIx2 (fVar 0) (fC (.int 0))) (fC (.str "text")))) (sRet (fAndV (fOp dEq (fCB dLen2 (fCons (fVar 0) (fNil))) (fC (.int 2))) (fCall c_is_text (fCons (fOp dIx2 (fVar 0) (fC (.int 1))) (fCons (fC (.int 1)) (fCons (fC (.int 12)) (fNil))))))) (sNil)) <|
  sSeq (sIf (fOr (fTru (fOp dNe (fCB dLen2 (fCons (fVar 0) (fNil))) (fC (.int 3)))) (fNot (fTru (fCall c_is_count (fCons (fOp dIx2 (fVar 0) (fC (.int 1))) (fCons (fC (.int 0)) (fCons (fC (.int 9)) (fNil)))))))) (sRet (fC (.bl false))) (sNil)) <|
  sSeq (sIf (fTru (fOp dEq (fOp dIx2 (fVar 0) (fC (.int 0))) (fC (.str "hole")))) (sRet (fAndV (fOp (dOrd iGt) (fVar 1) (fC (.int 0))) (fAndV (fCall r_are_parts (fCons (fOp dIx2 (fVar 0) (fC (.int 2))) (fCons (fOp dSub (fVar 1) (fC (.int 1))) (fNil)))) (fOrV (fOp (dOrd iGt) (fOp dIx2 (fVar 0) (fC (.int 1))) (fC (.int 0))) (fOp dEq (fOp dIx2 (fVar 0) (fC (.int 2))) (fTup (fNil))))))) (sNil)) <|
  sSeq (sIf (fTru (fOp dEq (fOp dIx2 (fVar 0) (fC (.int 1))) (fC (.int 0)))) (sRet (fC (.bl false))) (sNil)) <|
  sSeq (sIf (fTru (fOp dEq (fOp dIx2 (fVar 0) (fC (.int 0))) (fC (.str "choice")))) (sRet (fCall c_are_options (fCons (fOp dIx2 (fVar 0) (fC (.int 2))) (fNil)))) (sNil)) <|
  sRet (fAndV (fOp dEq (fOp dIx2 (fVar 0) (fC (.int 0))) (fC (.str "same"))) (fAndV (fIsi .str (fOp dIx2 (fVar 0) (fC (.int 2)))) (fOp dIn2 (fOp dIx2 (fVar 0) (fC (.int 2))) (fC (.tup ((["same", "up", "low", "head", "words"] : List Str).map D.str))))))
mutual
def cF_are_parts : Nat → List D → Store → R D
  | 0 => fun _ _ => .stk
  | n + 1 => callB 5 (b_are_parts (cF_is_part n))
def cF_is_part : Nat → List D → Store → R D
  | 0 => fun _ _ => .stk
  | n + 1 => callB 2 (b_is_part (cF_are_parts n))
end
abbrev c_are_parts : List D → Store → R D := cF_are_parts 16
abbrev c_is_part : List D → Store → R D := cF_is_part 16
def b_all_parts_l1 (r_all_parts : List D → Store → R D) : FS :=
  sWp [2] (sSeq (sDrop (fM .lst dAppend (fVar 1) (fCons (fVar 2) (fNil)))) <|
  sIf (fTru (fOp dEq (fOp dIx2 (fVar 2) (fC (.int 0))) (fC (.str "hole")))) (sDrop (fM .lst dExtend (fVar 1) (fCons (fCall r_all_parts (fCons (fOp dIx2 (fVar 2) (fC (.int 2))) (fNil))) (fNil)))) (sNil))
def b_all_parts (r_all_parts : List D → Store → R D) : FS :=
  sSeq (sSet 1 (fLstM (fNil))) <|
  sSeq (sFor (fIter (fVar 0)) (.nm 2) (b_all_parts_l1 r_all_parts)) <|
  sRet (fVar 1)
def cF_all_parts : Nat → List D → Store → R D
  | 0 => fun _ _ => .stk
  | n + 1 => callB 3 (b_all_parts (cF_all_parts n))
abbrev c_all_parts : List D → Store → R D := cF_all_parts 16
def b_homes_in : FS :=
  sRet (fLc (fIter (fCall c_all_parts (fCons (fVar 0) (fNil)))) (.nm 1) (fTru (fOp dIn2 (fOp dIx2 (fVar 1) (fC (.int 0))) (fTup (fCons (fC (.str "hole")) (fCons (fC (.str "choice")) (fNil)))))) (fOp dIx2 (fVar 1) (fC (.int 1))) [1])
def c_homes_in : List D → Store → R D := callB 2 b_homes_in
def b_goes_round_l1 : FS :=
  sWp [4] (sSeq (sSet 4 (fM0 .lst dPop (fVar 3))) <|
  sSeq (sIf (fTru (fOp dEq (fVar 4) (fVar 1))) (sRet (fC (.bl true))) (sNil)) <|
  sIf (fTru (fOp dNotIn2 (fVar 4) (fVar 2))) (sSeq (sDPutE (fVar 2) (fVar 4) (fC (.bl true))) <|
  sDrop (fM .lst dExtend (fVar 3) (fCons (fOp dIx2 (fVar 0) (fVar 4)) (fNil)))) (sNil))
def b_goes_round_l2 : FS :=
  sGc [1, 2, 3, 4] (sWp [1, 2, 3, 4] (sSeq (sPar 2 3 (fCons (fDNewM) (fCons (fCB dListM (fCons (fOp dIx2 (fVar 0) (fVar 1)) (fNil))) (fNil)))) <|
  sWhile 1000 (fTru (fOp dNe (fVar 3) (fLst (fNil)))) (b_goes_round_l1)))
def b_goes_round : FS :=
  sSeq (sForK 0 (.nm 1) (b_goes_round_l2)) <|
  sRet (fC (.bl false))
def c_goes_round : List D → Store → R D := callB 5 b_goes_round
def b_leads_of_l1 : FS :=
  sWp [2] (sIf (fTru (fOp dEq (fOp dIx2 (fVar 2) (fC (.int 0))) (fC (.str "hole")))) (sDPutE (fVar 1) (fOp dIx2 (fVar 2) (fC (.int 1))) (fLc (fIter (fCall c_all_parts (fCons (fOp dIx2 (fVar 2) (fC (.int 2))) (fNil)))) (.nm 3) (fTru (fOp dNe (fOp dIx2 (fVar 3) (fC (.int 0))) (fC (.str "text")))) (fOp dIx2 (fVar 3) (fC (.int 1))) [3])) (sIf (fTru (fOp dEq (fOp dIx2 (fVar 2) (fC (.int 0))) (fC (.str "choice")))) (sDPutE (fVar 1) (fOp dIx2 (fVar 2) (fC (.int 1))) (fLst (fNil))) (sNil)))
def b_leads_of : FS :=
  sSeq (sSet 1 (fDNewM)) <|
  sSeq (sFor (fIter (fCall c_all_parts (fCons (fVar 0) (fNil)))) (.nm 2) (b_leads_of_l1)) <|
  sRet (fVar 1)
def c_leads_of : List D → Store → R D := callB 4 b_leads_of
def b_is_template : FS :=
  sSeq (sIf (fOr (fNot (fTru (fCall c_are_parts (fCons (fVar 0) (fCons (fC (.int 3)) (fNil)))))) (fTru (fOp (dOrd iGt) (fCB dLen2 (fCons (fCall c_all_parts (fCons (fVar 0) (fNil))) (fNil))) (fC (.int 12))))) (sRet (fC (.bl false))) (sNil)) <|
  sSeq (sSet 1 (fCall c_homes_in (fCons (fVar 0) (fNil)))) <|
  sSeq (sIf (fOr (fTru (fOp dNe (fLenSet (fVar 1)) (fCB dLen2 (fCons (fVar 1) (fNil))))) (fNot (fTru (fCB dAll (fCons (fLc (fIter (fCall c_all_parts (fCons (fVar 0) (fNil)))) (.nm 2) (fTru (fOp dEq (fOp dIx2 (fVar 2) (fC (.int 0))) (fC (.str "same")))) (fOp dIn2 (fOp dIx2 (fVar 2) (fC (.int 1))) (fVar 1)) [2]) (fNil)))))) (sRet (fC (.bl false))) (sNil)) <|
  sSeq (sIf (fAnd (fTru (fOp dIn2 (fC (.int 0)) (fVar 1))) (fTru (fOp dNotIn2 (fTup (fCons (fC (.str "hole")) (fCons (fC (.int 0)) (fCons (fTup (fNil)) (fNil))))) (fVar 0)))) (sRet (fC (.bl false))) (sNil)) <|
  sRet (fNotV (fCall c_goes_round (fCons (fCall c_leads_of (fCons (fVar 0) (fNil))) (fNil))))
def c_is_template : List D → Store → R D := callB 3 b_is_template
def b_need_template : FS :=
  sIf (fNot (fTru (fCall c_is_template (fCons (fVar 0) (fNil))))) (sRaise 0) (sNil)
def c_need_template : List D → Store → R D := callB 1 b_need_template
def b_numbers : FS :=
  sSeq (sDrop (fCall c_need_template (fCons (fVar 0) (fNil)))) <|
  sRet (fCB dSorted (fCons (fCall c_homes_in (fCons (fVar 0) (fNil))) (fNil)))
def c_numbers : List D → Store → R D := callB 1 b_numbers
def b_part_text (r_part_text : List D → Store → R D) : FS :=
  sSeq (sIf (fTru (fOp dEq (fOp dIx2 (fVar 0) (fC (.int 0))) (fC (.str "text")))) (sRet (fOp dIx2 (fVar 0) (fC (.int 1)))) (sNil)) <|
  sSeq (sSet 1 (fOp dAdd (fC (.str "<")) (fCB dStr (fCons (fOp dIx2 (fVar 0) (fC (.int 1))) (fNil))))) <|
  sSeq (sIf (fTru (fOp dEq (fOp dIx2 (fVar 0) (fC (.int 0))) (fC (.str "hole")))) (sRet (fOp dAdd (fOp dAdd (fOp dAdd (fVar 1) (fC (.str ":"))) (fM .str dJoin (fC (.str "")) (fCons (fLc (fIter (fOp dIx2 (fVar 0) (fC (.int 2)))) (.nm 2) (fYes) (fCall r_part_text (fCons (fVar 2) (fNil))) [2]) (fNil)))) (fC (.str ">")))) (sNil)) <|
  sSeq (sIf (fTru (fOp dEq (fOp dIx2 (fVar 0) (fC (.int 0))) (fC (.str "choice")))) (sRet (fOp dAdd (fOp dAdd (fOp dAdd (fVar 1) (fC (.str "|"))) (fM .str dJoin (fC (.str "|")) (fCons (fOp dIx2 (fVar 0) (fC (.int 2))) (fNil)))) (fC (.str ">")))) (sNil)) <|
  sRet (fOp dAdd (fOp dAdd (fOp dAdd (fVar 1) (fC (.str "!"))) (fOp dIx2 (fVar 0) (fC (.int 2)))) (fC (.str ">")))
def cF_part_text : Nat → List D → Store → R D
  | 0 => fun _ _ => .stk
  | n + 1 => callB 3 (b_part_text (cF_part_text n))
abbrev c_part_text : List D → Store → R D := cF_part_text 16
def b_written : FS :=
  sSeq (sDrop (fCall c_need_template (fCons (fVar 0) (fNil)))) <|
  sRet (fM .str dJoin (fC (.str "")) (fCons (fLc (fIter (fVar 0)) (.nm 1) (fYes) (fCall c_part_text (fCons (fVar 1) (fNil))) [1]) (fNil)))
def c_written : List D → Store → R D := callB 2 b_written
def b_great_sign : FS :=
  sRet (fIf (fTru (fOp dIn2 (fVar 0) (fC (.str "abcdefghijklmnopqrstuvwxyz")))) (fOp dIx2 (fC (.str "ABCDEFGHIJKLMNOPQRSTUVWXYZ")) (fM .str dIndex (fC (.str "abcdefghijklmnopqrstuvwxyz")) (fCons (fVar 0) (fNil)))) (fVar 0))
def c_great_sign : List D → Store → R D := callB 1 b_great_sign
def b_small_sign : FS :=
  sRet (fIf (fTru (fOp dIn2 (fVar 0) (fC (.str "ABCDEFGHIJKLMNOPQRSTUVWXYZ")))) (fOp dIx2 (fC (.str "abcdefghijklmnopqrstuvwxyz")) (fM .str dIndex (fC (.str "ABCDEFGHIJKLMNOPQRSTUVWXYZ")) (fCons (fVar 0) (fNil)))) (fVar 0))
def c_small_sign : List D → Store → R D := callB 1 b_small_sign
def b_turned_text_l1 : FS :=
  sWp [2, 4, 5] (sSeq (sSet 5 (fOrV (fOp dEq (fVar 4) (fC (.int 0))) (fOp dNotIn2 (fOp dIx2 (fVar 0) (fOp dSub (fVar 4) (fC (.int 1)))) (fOp dAdd (fC (.str "abcdefghijklmnopqrstuvwxyz")) (fC (.str "ABCDEFGHIJKLMNOPQRSTUVWXYZ")))))) <|
  sSet 3 (fOp dAdd (fVar 3) (fIf (fTru (fVar 5)) (fCall c_great_sign (fCons (fVar 2) (fNil))) (fVar 2))))
def b_turned_text : FS :=
  sSeq (sIf (fTru (fOp dEq (fVar 1) (fC (.str "up")))) (sRet (fM .str dJoin (fC (.str "")) (fCons (fLc (fIter (fVar 0)) (.nm 2) (fYes) (fCall c_great_sign (fCons (fVar 2) (fNil))) [2]) (fNil)))) (sNil)) <|
  sSeq (sIf (fTru (fOp dEq (fVar 1) (fC (.str "low")))) (sRet (fM .str dJoin (fC (.str "")) (fCons (fLc (fIter (fVar 0)) (.nm 2) (fYes) (fCall c_small_sign (fCons (fVar 2) (fNil))) [2]) (fNil)))) (sNil)) <|
  sSeq (sIf (fTru (fOp dEq (fVar 1) (fC (.str "head")))) (sRet (fOp dAdd (fM .str dJoin (fC (.str "")) (fCons (fLc (fIter (fSlice (fVar 0) (fNoPart) (fPart (fC (.int 1))))) (.nm 2) (fYes) (fCall c_great_sign (fCons (fVar 2) (fNil))) [2]) (fNil))) (fSlice (fVar 0) (fPart (fC (.int 1))) (fNoPart)))) (sNil)) <|
  sSeq (sIf (fTru (fOp dEq (fVar 1) (fC (.str "words")))) (sSeq (sSet 3 (fC (.str ""))) <|
  sSeq (sFor (fEnum (fVar 0)) (.tp [4, 2]) (b_turned_text_l1)) <|
  sRet (fVar 3)) (sNil)) <|
  sRet (fVar 0)
def c_turned_text : List D → Store → R D := callB 6 b_turned_text
def b_nodes_of_l1 (r_nodes_of : List D → Store → R D) : FS :=
  sWp [2] (sSeq (sDrop (fM .lst dAppend (fVar 1) (fCons (fVar 2) (fNil)))) <|
  sIf (fTru (fOp dEq (fOp dIx2 (fVar 2) (fC (.int 0))) (fC (.str "hole")))) (sDrop (fM .lst dExtend (fVar 1) (fCons (fCall r_nodes_of (fCons (fOp dIx2 (fVar 2) (fC (.int 2))) (fNil))) (fNil)))) (sNil))
def b_nodes_of (r_nodes_of : List D → Store → R D) : FS :=
  sSeq (sSet 1 (fLstM (fNil))) <|
  sSeq (sFor (fIter (fVar 0)) (.nm 2) (b_nodes_of_l1 r_nodes_of)) <|
  sRet (fVar 1)
def cF_nodes_of : Nat → List D → Store → R D
  | 0 => fun _ _ => .stk
  | n + 1 => callB 3 (b_nodes_of (cF_nodes_of n))
abbrev c_nodes_of : List D → Store → R D := cF_nodes_of 16
def b_home_of : FS :=
  sSeq (sSet 2 (fLc (fIter (fCall c_nodes_of (fCons (fVar 0) (fNil)))) (.nm 3) (fAnd (fTru (fOp dEq (fOp dIx2 (fVar 3) (fC (.int 0))) (fC (.str "hole")))) (fTru (fOp dEq (fOp dIx2 (fVar 3) (fC (.int 1))) (fVar 1)))) (fVar 3) [3])) <|
  sRet (fIf (fTru (fOp dNe (fVar 2) (fLst (fNil)))) (fOp dIx2 (fVar 2) (fC (.int 0))) (fC .non))
def c_home_of : List D → Store → R D := callB 4 b_home_of
def b_tree_text (r_node_text : List D → Store → R D) : FS :=
  sRet (fM .str dJoin (fC (.str "")) (fCons (fLc (fIter (fVar 1)) (.nm 2) (fYes) (fCall r_node_text (fCons (fVar 0) (fCons (fVar 2) (fNil)))) [2]) (fNil)))
def b_node_text (r_tree_text : List D → Store → R D) (r_node_text : List D → Store → R D) : FS :=
  sSeq (sIf (fTru (fOp dEq (fOp dIx2 (fVar 1) (fC (.int 0))) (fC (.str "text")))) (sRet (fOp dIx2 (fVar 1) (fC (.int 1)))) (sNil)) <|
  sSeq (sIf (fTru (fOp dEq (fOp dIx2 (fVar 1) (fC (.int 0))) (fC (.str "hole")))) (sRet (fCall r_tree_text (fCons (fVar 0) (fCons (fOp dIx2 (fVar 1) (fC (.int 2))) (fNil))))) (sNil)) <|
  sRet (fCall c_turned_text (fCons (fCall r_node_text (fCons (fVar 0) (fCons (fCall c_home_of (fCons (fVar 0) (fCons (fOp dIx2 (fVar 1) (fC (.int 1))) (fNil)))) (fNil)))) (fCons (fOp dIx2 (fVar 1) (fC (.int 2))) (fNil))))
mutual
def cF_tree_text : Nat → List D → Store → R D
  | 0 => fun _ _ => .stk
  | n + 1 => callB 3 (b_tree_text (cF_node_text n))
def cF_node_text : Nat → List D → Store → R D
  | 0 => fun _ _ => .stk
  | n + 1 => callB 2 (b_node_text (cF_tree_text n) (cF_node_text n))
end
abbrev c_tree_text : List D → Store → R D := cF_tree_text 100
abbrev c_node_text : List D → Store → R D := cF_node_text 100
def b_need_short : FS :=
  sSeq (sSet 1 (fCall c_tree_text (fCons (fVar 0) (fCons (fVar 0) (fNil))))) <|
  sSeq (sIf (fTru (fOp (dOrd iGt) (fCB dLen2 (fCons (fVar 1) (fNil))) (fC (.int 300)))) (sRaise 6) (sNil)) <|
  sRet (fVar 1)
def c_need_short : List D → Store → R D := callB 2 b_need_short
def b_grown_l1 (r_grown : List D → Store → R D) : FS :=
  sWp [3, 4] (sIf (fTru (fOp dEq (fOp dIx2 (fVar 3) (fC (.int 0))) (fC (.str "text")))) (sDrop (fM .lst dAppend (fVar 2) (fCons (fVar 3) (fNil)))) (sIf (fTru (fOp dEq (fOp dIx2 (fVar 3) (fC (.int 0))) (fC (.str "hole")))) (sDrop (fM .lst dAppend (fVar 2) (fCons (fTup (fCons (fC (.str "hole")) (fCons (fOp dAdd (fVar 1) (fTup (fCons (fOp dIx2 (fVar 3) (fC (.int 1))) (fNil)))) (fCons (fCall r_grown (fCons (fOp dIx2 (fVar 3) (fC (.int 2))) (fCons (fVar 1) (fNil)))) (fCons (fTup (fNil)) (fNil)))))) (fNil)))) (sIf (fTru (fOp dEq (fOp dIx2 (fVar 3) (fC (.int 0))) (fC (.str "choice")))) (sSeq (sSet 4 (fOp dIx2 (fVar 3) (fC (.int 2)))) <|
  sDrop (fM .lst dAppend (fVar 2) (fCons (fTup (fCons (fC (.str "hole")) (fCons (fOp dAdd (fVar 1) (fTup (fCons (fOp dIx2 (fVar 3) (fC (.int 1))) (fNil)))) (fCons (fTup (fCons (fTup (fCons (fC (.str "text")) (fCons (fOp dIx2 (fVar 4) (fC (.int 0))) (fNil)))) (fNil))) (fCons (fVar 4) (fNil)))))) (fNil)))) (sDrop (fM .lst dAppend (fVar 2) (fCons (fTup (fCons (fC (.str "same")) (fCons (fOp dAdd (fVar 1) (fTup (fCons (fOp dIx2 (fVar 3) (fC (.int 1))) (fNil)))) (fCons (fOp dIx2 (fVar 3) (fC (.int 2))) (fNil))))) (fNil)))))))
def b_grown (r_grown : List D → Store → R D) : FS :=
  sSeq (sSet 2 (fLstM (fNil))) <|
  sSeq (sFor (fIter (fVar 0)) (.nm 3) (b_grown_l1 r_grown)) <|
  sRet (fCB dTuple (fCons (fVar 2) (fNil)))
def cF_grown : Nat → List D → Store → R D
  | 0 => fun _ _ => .stk
  | n + 1 => callB 5 (b_grown (cF_grown n))
abbrev c_grown : List D → Store → R D := cF_grown 16
def b_text_of : FS :=
  sSeq (sDrop (fCall c_need_template (fCons (fVar 0) (fNil)))) <|
  sRet (fCall c_need_short (fCons (fCall c_grown (fCons (fVar 0) (fCons (fTup (fNil)) (fNil)))) (fNil)))
def c_text_of : List D → Store → R D := callB 1 b_text_of
def b_spans_in_l1 (r_spans_in : List D → Store → R D) : FS :=
  sWp [4, 5] (sSeq (sSet 5 (fCB dLen2 (fCons (fCall c_node_text (fCons (fVar 0) (fCons (fVar 4) (fNil)))) (fNil)))) <|
  sSeq (sIf (fTru (fOp dNe (fOp dIx2 (fVar 4) (fC (.int 0))) (fC (.str "text")))) (sDrop (fM .lst dAppend (fVar 3) (fCons (fTup (fCons (fOp dIx2 (fVar 4) (fC (.int 0))) (fCons (fOp dIx2 (fVar 4) (fC (.int 1))) (fCons (fVar 2) (fCons (fOp dAdd (fVar 2) (fVar 5)) (fNil)))))) (fNil)))) (sNil)) <|
  sSeq (sIf (fTru (fOp dEq (fOp dIx2 (fVar 4) (fC (.int 0))) (fC (.str "hole")))) (sDrop (fM .lst dExtend (fVar 3) (fCons (fCall r_spans_in (fCons (fVar 0) (fCons (fOp dIx2 (fVar 4) (fC (.int 2))) (fCons (fVar 2) (fNil))))) (fNil)))) (sNil)) <|
  sSet 2 (fOp dAdd (fVar 2) (fVar 5)))
def b_spans_in (r_spans_in : List D → Store → R D) : FS :=
  sSeq (sSet 3 (fLstM (fNil))) <|
  sSeq (sWp [2] (sFor (fIter (fVar 1)) (.nm 4) (b_spans_in_l1 r_spans_in))) <|
  sRet (fVar 3)
def cF_spans_in : Nat → List D → Store → R D
  | 0 => fun _ _ => .stk
  | n + 1 => callB 6 (b_spans_in (cF_spans_in n))
abbrev c_spans_in : List D → Store → R D := cF_spans_in 16
def b_spans : FS :=
  sSeq (sDrop (fCall c_need_template (fCons (fVar 0) (fNil)))) <|
  sSeq (sSet 1 (fCall c_grown (fCons (fVar 0) (fCons (fTup (fNil)) (fNil))))) <|
  sSeq (sDrop (fCall c_need_short (fCons (fVar 1) (fNil)))) <|
  sRet (fLc (fIter (fCall c_spans_in (fCons (fVar 1) (fCons (fVar 1) (fCons (fC (.int 0)) (fNil)))))) (.tp [2, 3, 4, 5]) (fYes) (fTup (fCons (fVar 2) (fCons (fOp dIx2 (fVar 3) (fC (.int 0))) (fCons (fVar 4) (fCons (fVar 5) (fNil)))))) [2, 3, 4, 5])
def c_spans : List D → Store → R D := callB 6 b_spans
def b_paths_in : FS :=
  sRet (fLc (fIter (fCall c_nodes_of (fCons (fVar 0) (fNil)))) (.nm 1) (fTru (fOp dEq (fOp dIx2 (fVar 1) (fC (.int 0))) (fC (.str "hole")))) (fOp dIx2 (fVar 1) (fC (.int 1))) [1])
def c_paths_in : List D → Store → R D := callB 2 b_paths_in
def b_stop_key : FS :=
  sRet (fCB dTuple (fCons (fLc (fIter (fVar 0)) (.nm 1) (fYes) (fTup (fCons (fOp dEq (fVar 1) (fC (.int 0))) (fCons (fVar 1) (fNil)))) [1]) (fNil)))
def c_stop_key : List D → Store → R D := callB 2 b_stop_key
def b_law_homes_l1 (r_law_homes : List D → Store → R D) : FS :=
  sGc [1, 2] (sWp [2] (sSeq (sIf (fAnd (fTru (fOp dIn2 (fOp dIx2 (fVar 2) (fC (.int 0))) (fTup (fCons (fC (.str "hole")) (fCons (fC (.str "choice")) (fNil)))))) (fTru (fOp (dOrd iGt) (fOp dIx2 (fVar 2) (fC (.int 1))) (fC (.int 0))))) (sDrop (fM .lst dAppend (fVar 1) (fCons (fOp dIx2 (fVar 2) (fC (.int 1))) (fNil)))) (sNil)) <|
  sIf (fTru (fOp dEq (fOp dIx2 (fVar 2) (fC (.int 0))) (fC (.str "hole")))) (sSet 1 (fOp dAddM (fVar 1) (fCall r_law_homes (fCons (fOp dIx2 (fVar 2) (fC (.int 2))) (fNil))))) (sNil)))
def b_law_homes (r_law_homes : List D → Store → R D) : FS :=
  sSeq (sSet 1 (fLstM (fNil))) <|
  sSeq (sFor (fIter (fVar 0)) (.nm 2) (b_law_homes_l1 r_law_homes)) <|
  sRet (fVar 1)
def cF_law_homes : Nat → List D → Store → R D
  | 0 => fun _ _ => .stk
  | n + 1 => callB 3 (b_law_homes (cF_law_homes n))
abbrev c_law_homes : List D → Store → R D := cF_law_homes 16
def b_with_numbers_l1 (r_with_numbers : List D → Store → R D) : FS :=
  sWp [3] (sIf (fTru (fOp dEq (fOp dIx2 (fVar 3) (fC (.int 0))) (fC (.str "text")))) (sDrop (fM .lst dAppend (fVar 2) (fCons (fVar 3) (fNil)))) (sIf (fTru (fOp dEq (fOp dIx2 (fVar 3) (fC (.int 0))) (fC (.str "hole")))) (sDrop (fM .lst dAppend (fVar 2) (fCons (fTup (fCons (fC (.str "hole")) (fCons (fOp dIx2 (fVar 1) (fOp dIx2 (fVar 3) (fC (.int 1)))) (fCons (fCall r_with_numbers (fCons (fOp dIx2 (fVar 3) (fC (.int 2))) (fCons (fVar 1) (fNil)))) (fNil))))) (fNil)))) (sDrop (fM .lst dAppend (fVar 2) (fCons (fTup (fCons (fOp dIx2 (fVar 3) (fC (.int 0))) (fCons (fOp dIx2 (fVar 1) (fOp dIx2 (fVar 3) (fC (.int 1)))) (fCons (fOp dIx2 (fVar 3) (fC (.int 2))) (fNil))))) (fNil))))))
def b_with_numbers (r_with_numbers : List D → Store → R D) : FS :=
  sSeq (sSet 2 (fLstM (fNil))) <|
  sSeq (sFor (fIter (fVar 0)) (.nm 3) (b_with_numbers_l1 r_with_numbers)) <|
  sRet (fCB dTuple (fCons (fVar 2) (fNil)))
def cF_with_numbers : Nat → List D → Store → R D
  | 0 => fun _ _ => .stk
  | n + 1 => callB 4 (b_with_numbers (cF_with_numbers n))
abbrev c_with_numbers : List D → Store → R D := cF_with_numbers 16
def b_renumbered : FS :=
  sSeq (sDrop (fCall c_need_template (fCons (fVar 0) (fNil)))) <|
  sSeq (sSet 2 (fLc (fIter (fCall c_homes_in (fCons (fVar 0) (fNil)))) (.nm 4) (fTru (fOp (dOrd iGt) (fVar 4) (fC (.int 0)))) (fVar 4) [4])) <|
  sSeq (sIf (fOr (fNot (fTru (fCall c_is_count (fCons (fVar 1) (fCons (fC (.int 1)) (fCons (fC (.int 9)) (fNil))))))) (fTru (fOp (dOrd iGt) (fOp dSub (fOp dAdd (fVar 1) (fCB dLen2 (fCons (fVar 2) (fNil)))) (fC (.int 1))) (fC (.int 9))))) (sRaise 2) (sNil)) <|
  sSeq (sGc [3] (sSeq (sSet 3 (fCB dDictCM (fCons (fLc (fEnum (fVar 2)) (.tp [5, 4]) (fYes) (fTup (fCons (fVar 4) (fCons (fOp dAdd (fVar 1) (fVar 5)) (fNil)))) [5, 4]) (fNil)))) <|
  sDPutE (fVar 3) (fC (.int 0)) (fC (.int 0)))) <|
  sRet (fCall c_with_numbers (fCons (fVar 0) (fCons (fVar 3) (fNil))))
def c_renumbered : List D → Store → R D := callB 6 b_renumbered
def b_law_met_l1 : FS :=
  sWp [2] (sIf (fAnd (fTru (fOp dNe (fVar 1) (fLst (fNil)))) (fTru (fChain dEq dEq (fOp dIx2 (fVar 2) (fC (.int 0))) (fC (.str "text")) (fOp dIx2 (fOp dIx2 (fVar 1) (fNeg (fC (.int 1)))) (fC (.int 0)))))) (sDPutE (fVar 1) (fNeg (fC (.int 1))) (fTup (fCons (fC (.str "text")) (fCons (fOp dAdd (fOp dIx2 (fOp dIx2 (fVar 1) (fNeg (fC (.int 1)))) (fC (.int 1))) (fOp dIx2 (fVar 2) (fC (.int 1)))) (fNil))))) (sDrop (fM .lst dAppend (fVar 1) (fCons (fVar 2) (fNil)))))
def b_law_met : FS :=
  sSeq (sSet 1 (fLstM (fNil))) <|
  sSeq (sFor (fIter (fVar 0)) (.nm 2) (b_law_met_l1)) <|
  sRet (fCB dTuple (fCons (fVar 1) (fNil)))
def c_law_met : List D → Store → R D := callB 3 b_law_met
def b_law_many_parts (r_law_many_parts : List D → Store → R D) : FS :=
  sRet (fCB dSum (fCons (fLc (fIter (fVar 0)) (.nm 1) (fYes) (fOp dAdd (fC (.int 1)) (fIf (fTru (fOp dEq (fOp dIx2 (fVar 1) (fC (.int 0))) (fC (.str "hole")))) (fCall r_law_many_parts (fCons (fOp dIx2 (fVar 1) (fC (.int 2))) (fNil))) (fC (.int 0)))) [1]) (fNil)))
def cF_law_many_parts : Nat → List D → Store → R D
  | 0 => fun _ _ => .stk
  | n + 1 => callB 2 (b_law_many_parts (cF_law_many_parts n))
abbrev c_law_many_parts : List D → Store → R D := cF_law_many_parts 16
def b_tidy_l1 : FS :=
  sWp [2] (sIf (fAnd (fTru (fOp dNe (fVar 1) (fLst (fNil)))) (fTru (fChain dEq dEq (fOp dIx2 (fOp dIx2 (fVar 1) (fNeg (fC (.int 1)))) (fC (.int 0))) (fC (.str "text")) (fOp dIx2 (fVar 2) (fC (.int 0)))))) (sDPutE (fVar 1) (fNeg (fC (.int 1))) (fTup (fCons (fC (.str "text")) (fCons (fOp dAdd (fOp dIx2 (fOp dIx2 (fVar 1) (fNeg (fC (.int 1)))) (fC (.int 1))) (fOp dIx2 (fVar 2) (fC (.int 1)))) (fNil))))) (sDrop (fM .lst dAppend (fVar 1) (fCons (fVar 2) (fNil)))))
def b_tidy : FS :=
  sSeq (sSet 1 (fLstM (fNil))) <|
  sSeq (sFor (fIter (fVar 0)) (.nm 2) (b_tidy_l1)) <|
  sRet (fCB dTuple (fCons (fVar 1) (fNil)))
def c_tidy : List D → Store → R D := callB 3 b_tidy
def b_joined : FS :=
  sSeq (sDrop (fCall c_need_template (fCons (fVar 0) (fNil)))) <|
  sSeq (sDrop (fCall c_need_template (fCons (fVar 1) (fNil)))) <|
  sSeq (sSet 2 (fLc (fIter (fVar 0)) (.nm 7) (fTru (fOp dNe (fVar 7) (fTup (fCons (fC (.str "hole")) (fCons (fC (.int 0)) (fCons (fTup (fNil)) (fNil))))))) (fVar 7) [7])) <|
  sSeq (sSet 3 (fCB dMaxL (fCons (fOp dAdd (fLst (fCons (fC (.int 0)) (fNil))) (fCall c_homes_in (fCons (fVar 0) (fNil)))) (fNil)))) <|
  sSeq (sSet 4 (fLc (fIter (fCall c_homes_in (fCons (fVar 1) (fNil)))) (.nm 8) (fTru (fOp (dOrd iGt) (fVar 8) (fC (.int 0)))) (fVar 8) [8])) <|
  sSeq (sIf (fTru (fOp (dOrd iGt) (fOp dAdd (fVar 3) (fCB dLen2 (fCons (fVar 4) (fNil)))) (fC (.int 9)))) (sRaise 0) (sNil)) <|
  sSeq (sGc [5] (sSeq (sSet 5 (fCB dDictCM (fCons (fLc (fEnum (fVar 4)) (.tp [9, 8]) (fYes) (fTup (fCons (fVar 8) (fCons (fOp dAdd (fOp dAdd (fVar 3) (fC (.int 1))) (fVar 9)) (fNil)))) [9, 8]) (fNil)))) <|
  sDPutE (fVar 5) (fC (.int 0)) (fC (.int 0)))) <|
  sSeq (sSet 6 (fCall c_tidy (fCons (fOp dAdd (fVar 2) (fCB dList (fCons (fCall c_with_numbers (fCons (fVar 1) (fCons (fVar 5) (fNil)))) (fNil)))) (fNil)))) <|
  sSeq (sDrop (fCall c_need_template (fCons (fVar 6) (fNil)))) <|
  sRet (fVar 6)
def c_joined : List D → Store → R D := callB 10 b_joined
def b_law_written_l1 (r_law_written : List D → Store → R D) : FS :=
  sWp [2] (sIf (fTru (fOp dEq (fOp dIx2 (fVar 2) (fC (.int 0))) (fC (.str "text")))) (sSet 1 (fOp dAdd (fVar 1) (fOp dIx2 (fVar 2) (fC (.int 1))))) (sIf (fTru (fOp dEq (fOp dIx2 (fVar 2) (fC (.int 0))) (fC (.str "hole")))) (sSet 1 (fOp dAdd (fOp dAdd (fOp dAdd (fOp dAdd (fOp dAdd (fVar 1) (fC (.str "<"))) (fCB dStr (fCons (fOp dIx2 (fVar 2) (fC (.int 1))) (fNil)))) (fC (.str ":"))) (fCall r_law_written (fCons (fOp dIx2 (fVar 2) (fC (.int 2))) (fNil)))) (fC (.str ">")))) (sIf (fTru (fOp dEq (fOp dIx2 (fVar 2) (fC (.int 0))) (fC (.str "choice")))) (sSet 1 (fOp dAdd (fOp dAdd (fOp dAdd (fVar 1) (fC (.str "<"))) (fM .str dJoin (fC (.str "|")) (fCons (fOp dAdd (fLst (fCons (fCB dStr (fCons (fOp dIx2 (fVar 2) (fC (.int 1))) (fNil))) (fNil))) (fCB dList (fCons (fOp dIx2 (fVar 2) (fC (.int 2))) (fNil)))) (fNil)))) (fC (.str ">")))) (sSet 1 (fOp dAdd (fOp dAdd (fOp dAdd (fOp dAdd (fOp dAdd (fVar 1) (fC (.str "<"))) (fCB dStr (fCons (fOp dIx2 (fVar 2) (fC (.int 1))) (fNil)))) (fC (.str "!"))) (fOp dIx2 (fVar 2) (fC (.int 2)))) (fC (.str ">")))))))
def b_law_written (r_law_written : List D → Store → R D) : FS :=
  sSeq (sSet 1 (fC (.str ""))) <|
  sSeq (sFor (fIter (fVar 0)) (.nm 2) (b_law_written_l1 r_law_written)) <|
  sRet (fVar 1)
def cF_law_written : Nat → List D → Store → R D
  | 0 => fun _ _ => .stk
  | n + 1 => callB 3 (b_law_written (cF_law_written n))
abbrev c_law_written : List D → Store → R D := cF_law_written 16
def b_parts_from_l1 (r_hole_from : List D → Store → R D) : FS :=
  sSet 5 (fOp dAdd (fVar 5) (fC (.int 1)))
def b_parts_from_l2 (r_hole_from : List D → Store → R D) : FS :=
  sWp [4, 5] (sIf (fTru (fOp dEq (fOp dIx2 (fVar 0) (fVar 1)) (fC (.str "<")))) (sSeq (sAsg (.tp [4, 1]) (fCall r_hole_from (fCons (fVar 0) (fCons (fOp dAdd (fVar 1) (fC (.int 1))) (fCons (fVar 2) (fNil)))))) <|
  sDrop (fM .lst dAppend (fVar 3) (fCons (fVar 4) (fNil)))) (sSeq (sSet 5 (fVar 1)) <|
  sSeq (sWhile 1000 (fAnd (fTru (fOp (dOrd iLt) (fVar 5) (fCB dLen2 (fCons (fVar 0) (fNil))))) (fTru (fOp dNotIn2 (fOp dIx2 (fVar 0) (fVar 5)) (fC (.str "<>|!:"))))) (b_parts_from_l1 r_hole_from)) <|
  sSeq (sIf (fTru (fOp dEq (fVar 5) (fVar 1))) (sRaise 1) (sNil)) <|
  sSeq (sDrop (fM .lst dAppend (fVar 3) (fCons (fTup (fCons (fC (.str "text")) (fCons (fSlice (fVar 0) (fPart (fVar 1)) (fPart (fVar 5))) (fNil)))) (fNil)))) <|
  sSet 1 (fVar 5)))
def b_parts_from (r_hole_from : List D → Store → R D) : FS :=
  sSeq (sGc [1, 3, 4, 5] (sWp [4, 5] (sSeq (sSet 3 (fLstM (fNil))) <|
  sWhile 1000 (fAnd (fTru (fOp (dOrd iLt) (fVar 1) (fCB dLen2 (fCons (fVar 0) (fNil))))) (fTru (fOp dNe (fOp dIx2 (fVar 0) (fVar 1)) (fC (.str ">"))))) (b_parts_from_l2 r_hole_from)))) <|
  sRet (fTup (fCons (fCB dTuple (fCons (fVar 3) (fNil))) (fCons (fVar 1) (fNil))))
def b_hole_from (r_parts_from : List D → Store → R D) : FS :=
  sSeq (sIf (fOr (fTru (fOp dEq (fSlice (fVar 0) (fPart (fVar 1)) (fPart (fOp dAdd (fVar 1) (fC (.int 1))))) (fC (.str "")))) (fTru (fOp dNotIn2 (fOp dIx2 (fVar 0) (fVar 1)) (fC (.str "0123456789"))))) (sRaise 1) (sNil)) <|
  sSeq (sPar 3 4 (fCons (fCB dInt (fCons (fOp dIx2 (fVar 0) (fVar 1)) (fNil))) (fCons (fSlice (fVar 0) (fPart (fOp dAdd (fVar 1) (fC (.int 1)))) (fPart (fOp dAdd (fVar 1) (fC (.int 2))))) (fNil)))) <|
  sSeq (sIf (fTru (fOp dEq (fVar 4) (fC (.str ":")))) (sSeq (sIf (fTru (fOp dEq (fVar 2) (fC (.int 0)))) (sRaise 1) (sNil)) <|
  sSeq (sAsg (.tp [5, 6]) (fCall r_parts_from (fCons (fVar 0) (fCons (fOp dAdd (fVar 1) (fC (.int 2))) (fCons (fOp dSub (fVar 2) (fC (.int 1))) (fNil)))))) <|
  sSeq (sIf (fTru (fOp dNe (fSlice (fVar 0) (fPart (fVar 6)) (fPart (fOp dAdd (fVar 6) (fC (.int 1))))) (fC (.str ">")))) (sRaise 1) (sNil)) <|
  sRet (fTup (fCons (fTup (fCons (fC (.str "hole")) (fCons (fVar 3) (fCons (fVar 5) (fNil))))) (fCons (fOp dAdd (fVar 6) (fC (.int 1))) (fNil))))) (sNil)) <|
  sSeq (sSet 6 (fM .str dFind (fVar 0) (fCons (fC (.str ">")) (fCons (fVar 1) (fNil))))) <|
  sSeq (sIf (fOr (fTru (fOp (dOrd iLt) (fVar 6) (fC (.int 0)))) (fTru (fOp dNotIn2 (fVar 4) (fTup (fCons (fC (.str "|")) (fCons (fC (.str "!")) (fNil))))))) (sRaise 1) (sNil)) <|
  sSeq (sSet 7 (fSlice (fVar 0) (fPart (fOp dAdd (fVar 1) (fC (.int 2)))) (fPart (fVar 6)))) <|
  sSeq (sIf (fTru (fOp dEq (fVar 4) (fC (.str "!")))) (sRet (fTup (fCons (fTup (fCons (fC (.str "same")) (fCons (fVar 3) (fCons (fVar 7) (fNil))))) (fCons (fOp dAdd (fVar 6) (fC (.int 1))) (fNil))))) (sNil)) <|
  sRet (fTup (fCons (fTup (fCons (fC (.str "choice")) (fCons (fVar 3) (fCons (fCB dTuple (fCons (fM .str dSplit (fVar 7) (fCons (fC (.str "|")) (fNil))) (fNil))) (fNil))))) (fCons (fOp dAdd (fVar 6) (fC (.int 1))) (fNil))))
mutual
def cF_parts_from : Nat → List D → Store → R D
  | 0 => fun _ _ => .stk
  | n + 1 => callB 6 (b_parts_from (cF_hole_from n))
def cF_hole_from : Nat → List D → Store → R D
  | 0 => fun _ _ => .stk
  | n + 1 => callB 8 (b_hole_from (cF_parts_from n))
end
abbrev c_parts_from : List D → Store → R D := cF_parts_from 16
abbrev c_hole_from : List D → Store → R D := cF_hole_from 16
def b_read : FS :=
  sSeq (sIf (fNot (fTru (fIsi .str (fVar 0)))) (sRaise 1) (sNil)) <|
  sSeq (sAsg (.tp [1, 2]) (fCall c_parts_from (fCons (fVar 0) (fCons (fC (.int 0)) (fCons (fC (.int 3)) (fNil)))))) <|
  sSeq (sIf (fOr (fTru (fOp dNe (fVar 2) (fCB dLen2 (fCons (fVar 0) (fNil))))) (fOr (fNot (fTru (fCall c_is_template (fCons (fVar 1) (fNil))))) (fTru (fOp dNe (fCall c_written (fCons (fVar 1) (fNil))) (fVar 0))))) (sRaise 1) (sNil)) <|
  sRet (fVar 1)
def c_read : List D → Store → R D := callB 3 b_read
def b_law_read_l1 : FS :=
  sWp [4, 5, 6, 7, 8, 9] (sSeq (sSet 4 (fOp dIx2 (fVar 0) (fVar 3))) <|
  sSeq (sIf (fAnd (fTru (fOp dIn2 (fVar 4) (fC (.str "<>")))) (fTru (fOp dNe (fVar 2) (fC (.str ""))))) (sSeq (sDrop (fM .lst dAppend (fOp dIx2 (fOp dIx2 (fVar 1) (fNeg (fC (.int 1)))) (fC (.int 1))) (fCons (fTup (fCons (fC (.str "text")) (fCons (fVar 2) (fNil)))) (fNil)))) <|
  sSet 2 (fC (.str ""))) (sNil)) <|
  sSeq (sIf (fTru (fOp dEq (fVar 4) (fC (.str "<")))) (sSeq (sSet 5 (fSlice (fVar 0) (fPart (fOp dAdd (fVar 3) (fC (.int 1)))) (fPart (fOp dAdd (fVar 3) (fC (.int 3)))))) <|
  sSeq (sIf (fOr (fTru (fOp (dOrd iLt) (fCB dLen2 (fCons (fVar 5) (fNil))) (fC (.int 2)))) (fOr (fTru (fOp dNotIn2 (fOp dIx2 (fVar 5) (fC (.int 0))) (fC (.str "0123456789")))) (fTru (fOp dNotIn2 (fOp dIx2 (fVar 5) (fC (.int 1))) (fC (.str ":|!")))))) (sRet (fC .non)) (sNil)) <|
  sSeq (sPar 6 7 (fCons (fCB dInt (fCons (fOp dIx2 (fVar 0) (fOp dAdd (fVar 3) (fC (.int 1)))) (fNil))) (fCons (fOp dIx2 (fVar 0) (fOp dAdd (fVar 3) (fC (.int 2)))) (fNil)))) <|
  sSeq (sIf (fTru (fOp dEq (fVar 7) (fC (.str ":")))) (sSeq (sDrop (fM .lst dAppend (fVar 1) (fCons (fLst (fCons (fVar 6) (fCons (fLst (fNil)) (fNil)))) (fNil)))) <|
  sSeq (sSet 3 (fOp dAdd (fVar 3) (fC (.int 3)))) <|
  sCnt) (sNil)) <|
  sSeq (sSet 8 (fM .str dFind (fSlice (fVar 0) (fPart (fVar 3)) (fNoPart)) (fCons (fC (.str ">")) (fNil)))) <|
  sSeq (sIf (fTru (fOp (dOrd iLt) (fVar 8) (fC (.int 0)))) (sRet (fC .non)) (sNil)) <|
  sSeq (sSet 9 (fSlice (fVar 0) (fPart (fOp dAdd (fVar 3) (fC (.int 3)))) (fPart (fOp dAdd (fVar 3) (fVar 8))))) <|
  sSeq (sDrop (fM .lst dAppend (fOp dIx2 (fOp dIx2 (fVar 1) (fNeg (fC (.int 1)))) (fC (.int 1))) (fCons (fIf (fTru (fOp dEq (fVar 7) (fC (.str "!")))) (fTup (fCons (fC (.str "same")) (fCons (fVar 6) (fCons (fVar 9) (fNil))))) (fTup (fCons (fC (.str "choice")) (fCons (fVar 6) (fCons (fCB dTuple (fCons (fM .str dSplit (fVar 9) (fCons (fC (.str "|")) (fNil))) (fNil))) (fNil)))))) (fNil)))) <|
  sSeq (sSet 3 (fOp dAdd (fOp dAdd (fVar 3) (fVar 8)) (fC (.int 1)))) <|
  sCnt) (sNil)) <|
  sSeq (sIf (fTru (fOp dEq (fVar 4) (fC (.str ">")))) (sSeq (sIf (fTru (fOp dEq (fCB dLen2 (fCons (fVar 1) (fNil))) (fC (.int 1)))) (sRet (fC .non)) (sNil)) <|
  sSeq (sAsg (.tp [6, 9]) (fM0 .lst dPop (fVar 1))) <|
  sDrop (fM .lst dAppend (fOp dIx2 (fOp dIx2 (fVar 1) (fNeg (fC (.int 1)))) (fC (.int 1))) (fCons (fTup (fCons (fC (.str "hole")) (fCons (fVar 6) (fCons (fCB dTuple (fCons (fVar 9) (fNil))) (fNil))))) (fNil)))) (sIf (fTru (fOp dIn2 (fVar 4) (fC (.str "|!:")))) (sRet (fC .non)) (sSet 2 (fOp dAdd (fVar 2) (fVar 4))))) <|
  sSet 3 (fOp dAdd (fVar 3) (fC (.int 1))))
def b_law_read : FS :=
  sSeq (sGc [1, 2, 3, 4, 5, 6, 7, 8, 9] (sWp [3, 4, 5, 6, 7, 8, 9] (sSeq (sPar 1 2 (fCons (fLstM (fCons (fLst (fCons (fC .non) (fCons (fLst (fNil)) (fNil)))) (fNil))) (fCons (fC (.str "")) (fNil)))) <|
  sSeq (sSet 3 (fC (.int 0))) <|
  sWp [3] (sWhile 1000 (fTru (fOp (dOrd iLt) (fVar 3) (fCB dLen2 (fCons (fVar 0) (fNil))))) (b_law_read_l1))))) <|
  sSeq (sIf (fTru (fOp (dOrd iGt) (fCB dLen2 (fCons (fVar 1) (fNil))) (fC (.int 1)))) (sRet (fC .non)) (sNil)) <|
  sRet (fCB dTuple (fCons (fOp dAdd (fOp dIx2 (fOp dIx2 (fVar 1) (fC (.int 0))) (fC (.int 1))) (fIf (fTru (fOp dNe (fVar 2) (fC (.str "")))) (fLst (fCons (fTup (fCons (fC (.str "text")) (fCons (fVar 2) (fNil)))) (fNil))) (fLst (fNil)))) (fNil)))
def c_law_read : List D → Store → R D := callB 10 b_law_read
def b_law_ends : FS :=
  sSeq (sSet 2 (fLc (fEnum (fVar 0)) (.tp [3, 4]) (fAnd (fTru (fOp dEq (fCB dLen2 (fCons (fVar 4) (fNil))) (fC (.int 3)))) (fAnd (fTru (fOp dIn2 (fOp dIx2 (fVar 4) (fC (.int 0))) (fC (.str "()")))) (fTru (fOp dEq (fOp dIx2 (fVar 4) (fC (.int 1))) (fVar 1))))) (fVar 3) [3, 4])) <|
  sRet (fIf (fTru (fOp dNe (fVar 2) (fLst (fNil)))) (fVar 2) (fC .non))
def c_law_ends : List D → Store → R D := callB 5 b_law_ends
def b_law_turn_l1 : FS :=
  sWp [4, 5, 6] (sSeq (sSet 6 (fOrV (fOp dEq (fVar 4) (fC (.int 0))) (fOp dNotIn2 (fOp dIx2 (fVar 0) (fOp dSub (fVar 4) (fC (.int 1)))) (fVar 2)))) <|
  sSet 3 (fOp dAdd (fVar 3) (fIf (fTru (fVar 6)) (fM0 .str dUpper (fVar 5)) (fVar 5))))
def b_law_turn : FS :=
  sSeq (sSet 2 (fC (.str "abcdefghijklmnopqrstuvwxyzABCDEFGHIJKLMNOPQRSTUVWXYZ"))) <|
  sSeq (sIf (fTru (fOp dEq (fVar 1) (fC (.str "up")))) (sRet (fM0 .str dUpper (fVar 0))) (sNil)) <|
  sSeq (sIf (fTru (fOp dEq (fVar 1) (fC (.str "low")))) (sRet (fM0 .str dLower (fVar 0))) (sNil)) <|
  sSeq (sIf (fTru (fOp dEq (fVar 1) (fC (.str "head")))) (sRet (fOp dAdd (fM0 .str dUpper (fSlice (fVar 0) (fNoPart) (fPart (fC (.int 1))))) (fSlice (fVar 0) (fPart (fC (.int 1))) (fNoPart)))) (sNil)) <|
  sSeq (sIf (fTru (fOp dEq (fVar 1) (fC (.str "words")))) (sSeq (sSet 3 (fC (.str ""))) <|
  sSeq (sFor (fEnum (fVar 0)) (.tp [4, 5]) (b_law_turn_l1)) <|
  sRet (fVar 3)) (sNil)) <|
  sRet (fVar 0)
def c_law_turn : List D → Store → R D := callB 7 b_law_turn
def b_law_one_text (r_law_one_text : List D → Store → R D) : FS :=
  sSeq (sIf (fTru (fOp dEq (fCB dLen2 (fCons (fVar 1) (fNil))) (fC (.int 1)))) (sRet (fVar 1)) (sNil)) <|
  sSeq (sIf (fTru (fOp dNe (fOp dIx2 (fVar 1) (fC (.int 0))) (fC (.str "s")))) (sRet (fC (.str ""))) (sNil)) <|
  sSeq (sAsg (.tp [2, 3]) (fCall c_law_ends (fCons (fVar 0) (fCons (fOp dIx2 (fVar 1) (fC (.int 1))) (fNil))))) <|
  sRet (fCall c_law_turn (fCons (fM .str dJoin (fC (.str "")) (fCons (fLc (fIter (fSlice (fVar 0) (fPart (fOp dAdd (fVar 2) (fC (.int 1)))) (fPart (fVar 3)))) (.nm 4) (fYes) (fCall r_law_one_text (fCons (fVar 0) (fCons (fVar 4) (fNil)))) [4]) (fNil))) (fCons (fOp dIx2 (fVar 1) (fC (.int 2))) (fNil))))
def cF_law_one_text : Nat → List D → Store → R D
  | 0 => fun _ _ => .stk
  | n + 1 => callB 5 (b_law_one_text (cF_law_one_text n))
abbrev c_law_one_text : List D → Store → R D := cF_law_one_text 60
def b_law_text : FS :=
  sRet (fM .str dJoin (fC (.str "")) (fCons (fLc (fIter (fVar 0)) (.nm 1) (fYes) (fCall c_law_one_text (fCons (fVar 0) (fCons (fVar 1) (fNil)))) [1]) (fNil)))
def c_law_text : List D → Store → R D := callB 2 b_law_text
def b_law_flat_l1 (r_law_flat : List D → Store → R D) : FS :=
  sGc [2, 3, 4, 5] (sWp [3, 4, 5] (sIf (fTru (fOp dEq (fOp dIx2 (fVar 3) (fC (.int 0))) (fC (.str "text")))) (sDrop (fM .lst dExtend (fVar 2) (fCons (fCB dList (fCons (fOp dIx2 (fVar 3) (fC (.int 1))) (fNil))) (fNil)))) (sIf (fTru (fOp dEq (fOp dIx2 (fVar 3) (fC (.int 0))) (fC (.str "same")))) (sDrop (fM .lst dAppend (fVar 2) (fCons (fTup (fCons (fC (.str "s")) (fCons (fOp dAdd (fVar 1) (fTup (fCons (fOp dIx2 (fVar 3) (fC (.int 1))) (fNil)))) (fCons (fOp dIx2 (fVar 3) (fC (.int 2))) (fNil))))) (fNil)))) (sSeq (sSet 4 (fIf (fTru (fOp dEq (fOp dIx2 (fVar 3) (fC (.int 0))) (fC (.str "hole")))) (fCall r_law_flat (fCons (fOp dIx2 (fVar 3) (fC (.int 2))) (fCons (fVar 1) (fNil)))) (fCB dList (fCons (fOp dIx2 (fOp dIx2 (fVar 3) (fC (.int 2))) (fC (.int 0))) (fNil))))) <|
  sSeq (sSet 5 (fIf (fTru (fOp dEq (fOp dIx2 (fVar 3) (fC (.int 0))) (fC (.str "choice")))) (fOp dIx2 (fVar 3) (fC (.int 2))) (fTup (fNil)))) <|
  sSet 2 (fOp dAddM (fOp dAdd (fOp dAdd (fVar 2) (fLst (fCons (fTup (fCons (fC (.str "(")) (fCons (fOp dAdd (fVar 1) (fTup (fCons (fOp dIx2 (fVar 3) (fC (.int 1))) (fNil)))) (fCons (fVar 5) (fNil))))) (fNil)))) (fVar 4)) (fLst (fCons (fTup (fCons (fC (.str ")")) (fCons (fOp dAdd (fVar 1) (fTup (fCons (fOp dIx2 (fVar 3) (fC (.int 1))) (fNil)))) (fCons (fTup (fNil)) (fNil))))) (fNil))))))))
def b_law_flat (r_law_flat : List D → Store → R D) : FS :=
  sSeq (sSet 2 (fLstM (fNil))) <|
  sSeq (sFor (fIter (fVar 0)) (.nm 3) (b_law_flat_l1 r_law_flat)) <|
  sRet (fVar 2)
def cF_law_flat : Nat → List D → Store → R D
  | 0 => fun _ _ => .stk
  | n + 1 => callB 6 (b_law_flat (cF_law_flat n))
abbrev c_law_flat : List D → Store → R D := cF_law_flat 16
def b_law_spans_l1 : FS :=
  sWp [3, 4, 5] (sSeq (sSet 4 (fCB dLen2 (fCons (fCall c_law_one_text (fCons (fVar 0) (fCons (fVar 3) (fNil)))) (fNil)))) <|
  sSeq (sIf (fAnd (fTru (fOp dEq (fCB dLen2 (fCons (fVar 3) (fNil))) (fC (.int 3)))) (fTru (fOp dEq (fOp dIx2 (fVar 3) (fC (.int 0))) (fC (.str "s"))))) (sDrop (fM .lst dAppend (fVar 1) (fCons (fTup (fCons (fC (.str "same")) (fCons (fOp dIx2 (fVar 3) (fC (.int 1))) (fCons (fVar 2) (fCons (fOp dAdd (fVar 2) (fVar 4)) (fNil)))))) (fNil)))) (sIf (fAnd (fTru (fOp dEq (fCB dLen2 (fCons (fVar 3) (fNil))) (fC (.int 3)))) (fTru (fOp dEq (fOp dIx2 (fVar 3) (fC (.int 0))) (fC (.str "("))))) (sDrop (fM .lst dAppend (fVar 1) (fCons (fTup (fCons (fC (.str "hole")) (fCons (fOp dIx2 (fVar 3) (fC (.int 1))) (fCons (fVar 2) (fCons (fNeg (fC (.int 1))) (fNil)))))) (fNil)))) (sIf (fTru (fOp dEq (fCB dLen2 (fCons (fVar 3) (fNil))) (fC (.int 3)))) (sSeq (sSet 5 (fOp dIx2 (fLc (fEnum (fVar 1)) (.tp [6, 7]) (fAnd (fTru (fOp dEq (fOp dIx2 (fVar 7) (fC (.int 1))) (fOp dIx2 (fVar 3) (fC (.int 1))))) (fTru (fOp dEq (fOp dIx2 (fVar 7) (fC (.int 0))) (fC (.str "hole"))))) (fVar 6) [6, 7]) (fC (.int 0)))) <|
  sDPutE (fVar 1) (fVar 5) (fTup (fCons (fC (.str "hole")) (fCons (fOp dIx2 (fVar 3) (fC (.int 1))) (fCons (fOp dIx2 (fOp dIx2 (fVar 1) (fVar 5)) (fC (.int 2))) (fCons (fVar 2) (fNil))))))) (sNil)))) <|
  sSet 2 (fOp dAdd (fVar 2) (fVar 4)))
def b_law_spans : FS :=
  sSeq (sPar 1 2 (fCons (fLstM (fNil)) (fCons (fC (.int 0)) (fNil)))) <|
  sSeq (sWp [2] (sFor (fIter (fVar 0)) (.nm 3) (b_law_spans_l1))) <|
  sRet (fVar 1)
def c_law_spans : List D → Store → R D := callB 8 b_law_spans
def b_Walk_keep : FS :=
  sDrop (fM .lst dAppend (fFld 20 "past" (fVar 0)) (fCons (fTup (fCons (fFld 20 "tree" (fVar 0)) (fCons (fFld 20 "here" (fVar 0)) (fCons (fFld 20 "is_fresh" (fVar 0)) (fNil))))) (fNil)))
def c_Walk_keep : List D → Store → R D := callB 1 b_Walk_keep
def b_Walk_stand : FS :=
  sSeq (sDrop (fMeth 20 "keep" c_Walk_keep (fVar 0) fNil)) <|
  sSeq (sFldE 20 "here" (fVar 0) (fVar 1)) <|
  sFldE 20 "is_fresh" (fVar 0) (fC (.bl true))
def c_Walk_stand : List D → Store → R D := callB 2 b_Walk_stand
def b_Walk_need_here : FS :=
  sSeq (sIf (fTru (fOp dIsN (fFld 20 "here" (fVar 0)) (fC .non))) (sRaise 7) (sNil)) <|
  sRet (fCall c_home_of (fCons (fFld 20 "tree" (fVar 0)) (fCons (fFld 20 "here" (fVar 0)) (fNil))))
def c_Walk_need_here : List D → Store → R D := callB 1 b_Walk_need_here
def b_neat : FS :=
  sRet (fCall c_tidy (fCons (fLc (fIter (fVar 0)) (.nm 1) (fTru (fOp dNe (fVar 1) (fTup (fCons (fC (.str "text")) (fCons (fC (.str "")) (fNil)))))) (fVar 1) [1]) (fNil)))
def c_neat : List D → Store → R D := callB 2 b_neat
def b_plain_sames_l1 (r_plain_sames : List D → Store → R D) : FS :=
  sWp [3] (sIf (fAnd (fTru (fOp dEq (fOp dIx2 (fVar 3) (fC (.int 0))) (fC (.str "same")))) (fTru (fOp dIn2 (fTup (fCons (fOp dIx2 (fVar 3) (fC (.int 1))) (fCons (fOp dIx2 (fVar 3) (fC (.int 2))) (fNil)))) (fVar 1)))) (sDrop (fM .lst dAppend (fVar 2) (fCons (fTup (fCons (fC (.str "text")) (fCons (fOp dIx2 (fVar 1) (fTup (fCons (fOp dIx2 (fVar 3) (fC (.int 1))) (fCons (fOp dIx2 (fVar 3) (fC (.int 2))) (fNil))))) (fNil)))) (fNil)))) (sIf (fTru (fOp dEq (fOp dIx2 (fVar 3) (fC (.int 0))) (fC (.str "hole")))) (sDrop (fM .lst dAppend (fVar 2) (fCons (fTup (fCons (fC (.str "hole")) (fCons (fOp dIx2 (fVar 3) (fC (.int 1))) (fCons (fCall r_plain_sames (fCons (fOp dIx2 (fVar 3) (fC (.int 2))) (fCons (fVar 1) (fNil)))) (fCons (fOp dIx2 (fVar 3) (fC (.int 3))) (fNil)))))) (fNil)))) (sDrop (fM .lst dAppend (fVar 2) (fCons (fVar 3) (fNil))))))
def b_plain_sames (r_plain_sames : List D → Store → R D) : FS :=
  sSeq (sGc [2, 3] (sWp [3] (sSeq (sSet 2 (fLstM (fNil))) <|
  sFor (fIter (fVar 0)) (.nm 3) (b_plain_sames_l1 r_plain_sames)))) <|
  sRet (fCall c_neat (fCons (fVar 2) (fNil)))
def cF_plain_sames : Nat → List D → Store → R D
  | 0 => fun _ _ => .stk
  | n + 1 => callB 4 (b_plain_sames (cF_plain_sames n))
abbrev c_plain_sames : List D → Store → R D := cF_plain_sames 16
def b_settled_l1 : FS :=
  sWp [4] (sIf (fAnd (fTru (fOp dEq (fOp dIx2 (fVar 4) (fC (.int 0))) (fC (.str "same")))) (fTru (fOp dNotIn2 (fOp dIx2 (fVar 4) (fC (.int 1))) (fVar 2)))) (sDPutE (fVar 3) (fTup (fCons (fOp dIx2 (fVar 4) (fC (.int 1))) (fCons (fOp dIx2 (fVar 4) (fC (.int 2))) (fNil)))) (fCall c_node_text (fCons (fVar 0) (fCons (fVar 4) (fNil))))) (sNil))
def b_settled : FS :=
  sSeq (sSet 2 (fCall c_paths_in (fCons (fVar 1) (fNil)))) <|
  sSeq (sGc [3, 4] (sWp [4] (sSeq (sSet 3 (fDNewM)) <|
  sFor (fIter (fCall c_nodes_of (fCons (fVar 0) (fNil)))) (.nm 4) (b_settled_l1)))) <|
  sRet (fCall c_plain_sames (fCons (fVar 1) (fCons (fVar 3) (fNil))))
def c_settled : List D → Store → R D := callB 5 b_settled
def b_Walk_take : FS :=
  sSeq (sSet 2 (fCall c_settled (fCons (fFld 20 "tree" (fVar 0)) (fCons (fVar 1) (fNil))))) <|
  sSeq (sDrop (fCall c_need_short (fCons (fVar 2) (fNil)))) <|
  sSeq (sDrop (fMeth 20 "keep" c_Walk_keep (fVar 0) fNil)) <|
  sFldE 20 "tree" (fVar 0) (fVar 2)
def c_Walk_take : List D → Store → R D := callB 3 b_Walk_take
def b_with_content_l1 (r_with_content : List D → Store → R D) : FS :=
  sWp [4] (sIf (fAnd (fTru (fOp dEq (fOp dIx2 (fVar 4) (fC (.int 0))) (fC (.str "hole")))) (fTru (fOp dEq (fOp dIx2 (fVar 4) (fC (.int 1))) (fVar 1)))) (sDrop (fM .lst dAppend (fVar 3) (fCons (fTup (fCons (fC (.str "hole")) (fCons (fVar 1) (fCons (fVar 2) (fCons (fOp dIx2 (fVar 4) (fC (.int 3))) (fNil)))))) (fNil)))) (sIf (fTru (fOp dEq (fOp dIx2 (fVar 4) (fC (.int 0))) (fC (.str "hole")))) (sDrop (fM .lst dAppend (fVar 3) (fCons (fTup (fCons (fC (.str "hole")) (fCons (fOp dIx2 (fVar 4) (fC (.int 1))) (fCons (fCall r_with_content (fCons (fOp dIx2 (fVar 4) (fC (.int 2))) (fCons (fVar 1) (fCons (fVar 2) (fNil))))) (fCons (fOp dIx2 (fVar 4) (fC (.int 3))) (fNil)))))) (fNil)))) (sDrop (fM .lst dAppend (fVar 3) (fCons (fVar 4) (fNil))))))
def b_with_content (r_with_content : List D → Store → R D) : FS :=
  sSeq (sSet 3 (fLstM (fNil))) <|
  sSeq (sFor (fIter (fVar 0)) (.nm 4) (b_with_content_l1 r_with_content)) <|
  sRet (fCB dTuple (fCons (fVar 3) (fNil)))
def cF_with_content : Nat → List D → Store → R D
  | 0 => fun _ _ => .stk
  | n + 1 => callB 5 (b_with_content (cF_with_content n))
abbrev c_with_content : List D → Store → R D := cF_with_content 16
def b_Walk_press : FS :=
  sSeq (sSet 2 (fMeth 20 "need_here" c_Walk_need_here (fVar 0) fNil)) <|
  sSeq (sIf (fNot (fTru (fCall c_is_text (fCons (fVar 1) (fCons (fC (.int 1)) (fCons (fC (.int 12)) (fNil))))))) (sRaise 1) (sNil)) <|
  sSeq (sIf (fTru (fOp dIsN (fVar 2) (fC .non))) (sDrop (fMeth 20 "take" c_Walk_take (fVar 0) (fCons (fCall c_neat (fCons (fOp dAdd (fFld 20 "tree" (fVar 0)) (fTup (fCons (fTup (fCons (fC (.str "text")) (fCons (fVar 1) (fNil)))) (fNil)))) (fNil))) (fNil)))) (sSeq (sSet 3 (fIf (fTru (fFld 20 "is_fresh" (fVar 0))) (fTup (fNil)) (fOp dIx2 (fVar 2) (fC (.int 2))))) <|
  sDrop (fMeth 20 "take" c_Walk_take (fVar 0) (fCons (fCall c_with_content (fCons (fFld 20 "tree" (fVar 0)) (fCons (fFld 20 "here" (fVar 0)) (fCons (fCall c_neat (fCons (fOp dAdd (fVar 3) (fTup (fCons (fTup (fCons (fC (.str "text")) (fCons (fVar 1) (fNil)))) (fNil)))) (fNil))) (fNil))))) (fNil))))) <|
  sFldE 20 "is_fresh" (fVar 0) (fC (.bl false))
def c_Walk_press : List D → Store → R D := callB 4 b_Walk_press
def b_Walk_rub : FS :=
  sSeq (sSet 1 (fMeth 20 "need_here" c_Walk_need_here (fVar 0) fNil)) <|
  sSeq (sSet 2 (fIf (fTru (fOp dNotN (fVar 1) (fC .non))) (fCall c_tree_text (fCons (fFld 20 "tree" (fVar 0)) (fCons (fOp dIx2 (fVar 1) (fC (.int 2))) (fNil)))) (fC (.str "")))) <|
  sSeq (sIf (fTru (fOp dEq (fVar 2) (fC (.str "")))) (sRaise 8) (sNil)) <|
  sSeq (sDrop (fMeth 20 "take" c_Walk_take (fVar 0) (fCons (fCall c_with_content (fCons (fFld 20 "tree" (fVar 0)) (fCons (fFld 20 "here" (fVar 0)) (fCons (fCall c_neat (fCons (fTup (fCons (fTup (fCons (fC (.str "text")) (fCons (fSlice (fVar 2) (fNoPart) (fPart (fNeg (fC (.int 1))))) (fNil)))) (fNil))) (fNil))) (fNil))))) (fNil)))) <|
  sFldE 20 "is_fresh" (fVar 0) (fC (.bl false))
def c_Walk_rub : List D → Store → R D := callB 3 b_Walk_rub
def b_need_answers : FS :=
  sSeq (sIf (fOr (fNot (fTru (fIsi .dic (fVar 0)))) (fNot (fTru (fCB dAll (fCons (fLc (fItK 0) (.nm 1) (fYes) (fCall c_is_count (fCons (fVar 1) (fCons (fC (.int 1)) (fCons (fC (.int 9)) (fNil))))) [1]) (fNil)))))) (sRaise 2) (sNil)) <|
  sIf (fNot (fTru (fCB dAll (fCons (fLc (fItK 0) (.nm 1) (fYes) (fCall c_is_text (fCons (fOp dIx2 (fVar 0) (fVar 1)) (fCons (fC (.int 0)) (fCons (fC (.int 12)) (fNil))))) [1]) (fNil))))) (sRaise 1) (sNil)
def c_need_answers : List D → Store → R D := callB 2 b_need_answers
def b_filled_l1 : FS :=
  sWp [3, 4] (sIf (fTru (fOp dNotN (fCall c_home_of (fCons (fVar 2) (fCons (fTup (fCons (fVar 3) (fNil))) (fNil)))) (fC .non))) (sSeq (sSet 4 (fIf (fTru (fOp dNe (fOp dIx2 (fVar 1) (fVar 3)) (fC (.str "")))) (fTup (fCons (fTup (fCons (fC (.str "text")) (fCons (fOp dIx2 (fVar 1) (fVar 3)) (fNil)))) (fNil))) (fTup (fNil)))) <|
  sSet 2 (fCall c_settled (fCons (fVar 2) (fCons (fCall c_with_content (fCons (fVar 2) (fCons (fTup (fCons (fVar 3) (fNil))) (fCons (fVar 4) (fNil))))) (fNil))))) (sNil))
def b_filled : FS :=
  sSeq (sDrop (fCall c_need_template (fCons (fVar 0) (fNil)))) <|
  sSeq (sDrop (fCall c_need_answers (fCons (fVar 1) (fNil)))) <|
  sSeq (sSet 2 (fCall c_grown (fCons (fVar 0) (fCons (fTup (fNil)) (fNil))))) <|
  sSeq (sDrop (fCall c_need_short (fCons (fVar 2) (fNil)))) <|
  sSeq (sFor (fIter (fCB dSorted (fCons (fVar 1) (fNil)))) (.nm 3) (b_filled_l1)) <|
  sRet (fCall c_need_short (fCons (fVar 2) (fNil)))
def c_filled : List D → Store → R D := callB 5 b_filled
def b_Walk_text : FS :=
  sRet (fCall c_tree_text (fCons (fFld 20 "tree" (fVar 0)) (fCons (fFld 20 "tree" (fVar 0)) (fNil))))
def c_Walk_text : List D → Store → R D := callB 1 b_Walk_text
def b_turned : FS :=
  sSeq (sIf (fOr (fNot (fTru (fIsi .str (fVar 0)))) (fOr (fNot (fTru (fIsi .str (fVar 1)))) (fTru (fOp dNotIn2 (fVar 1) (fC (.tup ((["same", "up", "low", "head", "words"] : List Str).map D.str))))))) (sRaise 1) (sNil)) <|
  sRet (fCall c_turned_text (fCons (fVar 0) (fCons (fVar 1) (fNil))))
def c_turned : List D → Store → R D := callB 2 b_turned
def b_Walk_active : FS :=
  sRet (fFld 20 "here" (fVar 0))
def c_Walk_active : List D → Store → R D := callB 1 b_Walk_active
def b_Walk_spans : FS :=
  sRet (fCall c_spans_in (fCons (fFld 20 "tree" (fVar 0)) (fCons (fFld 20 "tree" (fVar 0)) (fCons (fC (.int 0)) (fNil)))))
def c_Walk_spans : List D → Store → R D := callB 1 b_Walk_spans
def b_Walk_place_l1 : FS :=
  sWp [1, 2, 3, 4] (sIf (fAnd (fTru (fOp dEq (fVar 1) (fC (.str "hole")))) (fTru (fOp dEq (fVar 2) (fFld 20 "here" (fVar 0))))) (sRet (fTup (fCons (fVar 3) (fCons (fVar 4) (fNil))))) (sNil))
def b_Walk_place : FS :=
  sSeq (sIf (fTru (fOp dIsN (fFld 20 "here" (fVar 0)) (fC .non))) (sRaise 7) (sNil)) <|
  sSeq (sFor (fIter (fMeth 20 "spans" c_Walk_spans (fVar 0) fNil)) (.tp [1, 2, 3, 4]) (b_Walk_place_l1)) <|
  sRet (fTup (fCons (fCB dLen2 (fCons (fMeth 20 "text" c_Walk_text (fVar 0) fNil) (fNil))) (fCons (fCB dLen2 (fCons (fMeth 20 "text" c_Walk_text (fVar 0) fNil) (fNil))) (fNil))))
def c_Walk_place : List D → Store → R D := callB 5 b_Walk_place
def b_law_keep : FS :=
  sDrop (fM .lst dAppend (fOp dIx2 (fVar 0) (fC (.str "past"))) (fCons (fTup (fCons (fOp dIx2 (fVar 0) (fC (.str "flat"))) (fCons (fOp dIx2 (fVar 0) (fC (.str "here"))) (fCons (fOp dIx2 (fVar 0) (fC (.str "fresh"))) (fNil))))) (fNil)))
def c_law_keep : List D → Store → R D := callB 1 b_law_keep
def b_law_inner : FS :=
  sSeq (sSet 1 (fCall c_law_ends (fCons (fOp dIx2 (fVar 0) (fC (.str "flat"))) (fCons (fOp dIx2 (fVar 0) (fC (.str "here"))) (fNil))))) <|
  sRet (fIf (fTru (fOp dIsN (fVar 1) (fC .non))) (fC .non) (fSlice (fOp dIx2 (fVar 0) (fC (.str "flat"))) (fPart (fOp dAdd (fOp dIx2 (fVar 1) (fC (.int 0))) (fC (.int 1)))) (fPart (fOp dIx2 (fVar 1) (fC (.int 1))))))
def c_law_inner : List D → Store → R D := callB 2 b_law_inner
def b_Walk_choose : FS :=
  sSeq (sSet 2 (fMeth 20 "need_here" c_Walk_need_here (fVar 0) fNil)) <|
  sSeq (sIf (fOr (fTru (fOp dIsN (fVar 2) (fC .non))) (fNot (fTru (fCall c_is_count (fCons (fVar 1) (fCons (fC (.int 0)) (fCons (fOp dSub (fCB dLen2 (fCons (fOp dIx2 (fVar 2) (fC (.int 3))) (fNil))) (fC (.int 1))) (fNil)))))))) (sRaise 5) (sNil)) <|
  sSeq (sDrop (fMeth 20 "take" c_Walk_take (fVar 0) (fCons (fCall c_with_content (fCons (fFld 20 "tree" (fVar 0)) (fCons (fFld 20 "here" (fVar 0)) (fCons (fTup (fCons (fTup (fCons (fC (.str "text")) (fCons (fOp dIx2 (fOp dIx2 (fVar 2) (fC (.int 3))) (fVar 1)) (fNil)))) (fNil))) (fNil))))) (fNil)))) <|
  sFldE 20 "is_fresh" (fVar 0) (fC (.bl false))
def c_Walk_choose : List D → Store → R D := callB 3 b_Walk_choose
def b_law_shown_right_l1 : FS :=
  sWp [5, 6, 7, 8, 9] (sIf (fAnd (fTru (fOp dEq (fVar 6) (fVar 1))) (fTru (fOp dEq (fVar 5) (fC (.str "same"))))) (sSeq (sSet 9 (fLst (fCons (fC (.str "same")) (fCons (fC (.str "up")) (fCons (fC (.str "low")) (fCons (fC (.str "head")) (fCons (fC (.str "words")) (fNil)))))))) <|
  sIf (fTru (fOp dNotIn2 (fSlice (fVar 2) (fPart (fVar 7)) (fPart (fVar 8))) (fLc (fIter (fVar 9)) (.nm 10) (fYes) (fCall c_turned (fCons (fSlice (fVar 2) (fPart (fVar 3)) (fPart (fVar 4))) (fCons (fVar 10) (fNil)))) [10]))) (sRet (fC (.bl false))) (sNil)) (sNil))
def b_law_shown_right : FS :=
  sSeq (sSet 2 (fMeth 20 "text" c_Walk_text (fVar 0) fNil)) <|
  sSeq (sAsg (.tp [3, 4]) (fMeth 20 "place" c_Walk_place (fVar 0) fNil)) <|
  sSeq (sFor (fIter (fMeth 20 "spans" c_Walk_spans (fVar 0) fNil)) (.tp [5, 6, 7, 8]) (b_law_shown_right_l1)) <|
  sRet (fC (.bl true))
def c_law_shown_right : List D → Store → R D := callB 11 b_law_shown_right
def b_is_touched : FS :=
  sRet (fAndV (fOp (dOrd iGt) (fVar 1) (fVar 2)) (fOp (dOrd iLt) (fVar 0) (fVar 3)))
def c_is_touched : List D → Store → R D := callB 4 b_is_touched
def b_opened_l1 (r_opened : List D → Store → R D) : FS :=
  sWp [6, 7, 8, 9, 10] (sSeq (sSet 7 (fCall c_node_text (fCons (fVar 0) (fCons (fVar 6) (fNil))))) <|
  sSeq (sPar 8 9 (fCons (fVar 2) (fCons (fOp dAdd (fVar 2) (fCB dLen2 (fCons (fVar 7) (fNil)))) (fNil)))) <|
  sSeq (sSet 2 (fVar 9)) <|
  sIf (fOr (fTru (fOp dEq (fOp dIx2 (fVar 6) (fC (.int 0))) (fC (.str "text")))) (fNot (fTru (fCall c_is_touched (fCons (fVar 3) (fCons (fVar 4) (fCons (fVar 8) (fCons (fVar 9) (fNil))))))))) (sDrop (fM .lst dAppend (fVar 5) (fCons (fVar 6) (fNil)))) (sIf (fTru (fOp dEq (fOp dIx2 (fVar 6) (fC (.int 0))) (fC (.str "same")))) (sDrop (fM .lst dAppend (fVar 5) (fCons (fTup (fCons (fC (.str "text")) (fCons (fVar 7) (fNil)))) (fNil)))) (sSeq (sSet 10 (fCall r_opened (fCons (fVar 0) (fCons (fOp dIx2 (fVar 6) (fC (.int 2))) (fCons (fVar 8) (fCons (fVar 3) (fCons (fVar 4) (fNil)))))))) <|
  sIf (fAnd (fTru (fOp (dOrd iLe) (fVar 8) (fVar 3))) (fTru (fOp (dOrd iLe) (fVar 4) (fVar 9)))) (sDrop (fM .lst dAppend (fVar 5) (fCons (fTup (fCons (fC (.str "hole")) (fCons (fOp dIx2 (fVar 6) (fC (.int 1))) (fCons (fVar 10) (fCons (fOp dIx2 (fVar 6) (fC (.int 3))) (fNil)))))) (fNil)))) (sDrop (fM .lst dExtend (fVar 5) (fCons (fVar 10) (fNil)))))))
def b_opened (r_opened : List D → Store → R D) : FS :=
  sSeq (sGc [2, 5, 6, 7, 8, 9, 10] (sWp [2, 6, 7, 8, 9, 10] (sSeq (sSet 5 (fLstM (fNil))) <|
  sWp [2] (sFor (fIter (fVar 1)) (.nm 6) (b_opened_l1 r_opened))))) <|
  sRet (fCall c_neat (fCons (fVar 5) (fNil)))
def cF_opened : Nat → List D → Store → R D
  | 0 => fun _ _ => .stk
  | n + 1 => callB 11 (b_opened (cF_opened n))
abbrev c_opened : List D → Store → R D := cF_opened 16
def b_size_in : FS :=
  sRet (fCB dLen2 (fCons (fCall c_node_text (fCons (fVar 0) (fCons (fVar 1) (fNil)))) (fNil)))
def c_size_in : List D → Store → R D := callB 2 b_size_in
def b_spliced_l1 : FS :=
  sWp [10, 11] (sSeq (sSet 11 (fIf (fTru (fOp dEq (fOp dIx2 (fVar 10) (fC (.int 0))) (fC (.str "text")))) (fC (.int 1)) (fCall c_size_in (fCons (fVar 0) (fCons (fVar 10) (fNil)))))) <|
  sSeq (sIf (fAnd (fNot (fTru (fVar 7))) (fTru (fOp (dOrd iGe) (fVar 2) (fVar 3)))) (sSeq (sDrop (fM .lst dAppend (fVar 6) (fCons (fTup (fCons (fC (.str "text")) (fCons (fVar 5) (fNil)))) (fNil)))) <|
  sSet 7 (fC (.bl true))) (sNil)) <|
  sSeq (sIf (fOr (fTru (fOp dNe (fOp dIx2 (fVar 10) (fC (.int 0))) (fC (.str "text")))) (fOr (fTru (fOp (dOrd iLt) (fVar 2) (fVar 3))) (fTru (fOp (dOrd iGe) (fVar 2) (fVar 4))))) (sDrop (fM .lst dAppend (fVar 6) (fCons (fVar 10) (fNil)))) (sNil)) <|
  sSet 2 (fOp dAdd (fVar 2) (fVar 11)))
def b_spliced_l2 : FS :=
  sWp [8, 9, 10, 11] (sSeq (sSet 9 (fIf (fTru (fOp dEq (fOp dIx2 (fVar 8) (fC (.int 0))) (fC (.str "text")))) (fLc (fIter (fOp dIx2 (fVar 8) (fC (.int 1)))) (.nm 12) (fYes) (fTup (fCons (fC (.str "text")) (fCons (fVar 12) (fNil)))) [12]) (fLst (fCons (fVar 8) (fNil))))) <|
  sFor (fIter (fVar 9)) (.nm 10) (b_spliced_l1))
def b_spliced : FS :=
  sSeq (sGc [2, 6, 7, 8, 9, 10, 11] (sWp [2, 7, 8, 9, 10, 11] (sSeq (sPar 6 7 (fCons (fLstM (fNil)) (fCons (fC (.bl false)) (fNil)))) <|
  sSeq (sWp [2] (sFor (fIter (fVar 1)) (.nm 8) (b_spliced_l2))) <|
  sIf (fNot (fTru (fVar 7))) (sDrop (fM .lst dAppend (fVar 6) (fCons (fTup (fCons (fC (.str "text")) (fCons (fVar 5) (fNil)))) (fNil)))) (sNil)))) <|
  sRet (fCall c_neat (fCons (fVar 6) (fNil)))
def c_spliced : List D → Store → R D := callB 13 b_spliced
def b_changed_l1 (r_changed : List D → Store → R D) : FS :=
  sWp [7, 8, 9, 10, 11] (sSeq (sPar 9 10 (fCons (fVar 2) (fCons (fOp dAdd (fVar 2) (fCall c_size_in (fCons (fVar 0) (fCons (fVar 8) (fNil))))) (fNil)))) <|
  sSeq (sSet 2 (fVar 10)) <|
  sIf (fAnd (fTru (fOp dEq (fOp dIx2 (fVar 8) (fC (.int 0))) (fC (.str "hole")))) (fTru (fCall c_is_touched (fCons (fVar 3) (fCons (fVar 4) (fCons (fVar 9) (fCons (fVar 10) (fNil)))))))) (sSeq (sSet 11 (fCall r_changed (fCons (fVar 0) (fCons (fOp dIx2 (fVar 8) (fC (.int 2))) (fCons (fVar 9) (fCons (fVar 3) (fCons (fVar 4) (fCons (fVar 5) (fNil))))))))) <|
  sRet (fOp dAdd (fOp dAdd (fSlice (fVar 1) (fNoPart) (fPart (fVar 7))) (fTup (fCons (fTup (fCons (fC (.str "hole")) (fCons (fOp dIx2 (fVar 8) (fC (.int 1))) (fCons (fVar 11) (fCons (fOp dIx2 (fVar 8) (fC (.int 3))) (fNil)))))) (fNil)))) (fSlice (fVar 1) (fPart (fOp dAdd (fVar 7) (fC (.int 1)))) (fNoPart)))) (sNil))
def b_changed (r_changed : List D → Store → R D) : FS :=
  sSeq (sSet 6 (fVar 2)) <|
  sSeq (sWp [2] (sFor (fEnum (fVar 1)) (.tp [7, 8]) (b_changed_l1 r_changed))) <|
  sRet (fCall c_spliced (fCons (fVar 0) (fCons (fVar 1) (fCons (fVar 6) (fCons (fVar 3) (fCons (fVar 4) (fCons (fVar 5) (fNil))))))))
def cF_changed : Nat → List D → Store → R D
  | 0 => fun _ _ => .stk
  | n + 1 => callB 12 (b_changed (cF_changed n))
abbrev c_changed : List D → Store → R D := cF_changed 16
def b_edited : FS :=
  sSeq (sSet 4 (fCall c_opened (fCons (fVar 0) (fCons (fVar 0) (fCons (fC (.int 0)) (fCons (fVar 1) (fCons (fVar 2) (fNil)))))))) <|
  sRet (fCall c_changed (fCons (fVar 0) (fCons (fVar 4) (fCons (fC (.int 0)) (fCons (fVar 1) (fCons (fVar 2) (fCons (fVar 3) (fNil))))))))
def c_edited : List D → Store → R D := callB 5 b_edited
def b_law_units_l1 : FS :=
  sWp [5] (sSeq (sDrop (fM .lst dAppend (fVar 3) (fCons (fVar 4) (fNil)))) <|
  sSet 4 (fOp dAdd (fVar 4) (fCB dLen2 (fCons (fCall c_law_one_text (fCons (fVar 0) (fCons (fVar 5) (fNil)))) (fNil)))))
def b_law_units_l2 : FS :=
  sWp [5, 8, 9, 10] (sIf (fAnd (fTru (fOp dEq (fCB dLen2 (fCons (fVar 5) (fNil))) (fC (.int 3)))) (fTru (fOp dEq (fOp dIx2 (fVar 5) (fC (.int 0))) (fC (.str "("))))) (sSeq (sPar 9 10 (fCons (fOp dIx2 (fVar 3) (fVar 8)) (fCons (fOp dIx2 (fVar 3) (fOp dIx2 (fCall c_law_ends (fCons (fVar 0) (fCons (fOp dIx2 (fVar 5) (fC (.int 1))) (fNil)))) (fC (.int 1)))) (fNil)))) <|
  sIf (fAnd (fTru (fOp (dOrd iGt) (fVar 2) (fVar 9))) (fTru (fOp (dOrd iLt) (fVar 1) (fVar 10)))) (sIf (fAnd (fTru (fOp (dOrd iLe) (fVar 9) (fVar 1))) (fTru (fOp (dOrd iLe) (fVar 2) (fVar 10)))) (sSet 7 (fOp dIx2 (fVar 5) (fC (.int 1)))) (sDrop (fM .lst dAppend (fVar 6) (fCons (fOp dIx2 (fVar 5) (fC (.int 1))) (fNil))))) (sNil)) (sNil))
def b_law_units_l3 : FS :=
  sWp [5, 8, 12] (sSeq (sSet 12 (fCB dLen2 (fCons (fCall c_law_one_text (fCons (fVar 0) (fCons (fVar 5) (fNil)))) (fNil)))) <|
  sIf (fAnd (fTru (fOp dEq (fCB dLen2 (fCons (fVar 5) (fNil))) (fC (.int 3)))) (fAnd (fTru (fOp dEq (fOp dIx2 (fVar 5) (fC (.int 0))) (fC (.str "s")))) (fAnd (fTru (fOp (dOrd iGt) (fVar 2) (fOp dIx2 (fVar 3) (fVar 8)))) (fTru (fOp (dOrd iLt) (fVar 1) (fOp dAdd (fOp dIx2 (fVar 3) (fVar 8)) (fVar 12))))))) (sDrop (fM .lst dExtend (fVar 11) (fCons (fLc (fEnum (fCall c_law_one_text (fCons (fVar 0) (fCons (fVar 5) (fNil))))) (.tp [13, 14]) (fYes) (fTup (fCons (fVar 14) (fCons (fOp dAdd (fOp dIx2 (fVar 3) (fVar 8)) (fVar 13)) (fNil)))) [13, 14]) (fNil)))) (sIf (fOr (fTru (fOp dEq (fCB dLen2 (fCons (fVar 5) (fNil))) (fC (.int 1)))) (fOr (fTru (fOp dEq (fOp dIx2 (fVar 5) (fC (.int 0))) (fC (.str "s")))) (fTru (fOp dNotIn2 (fOp dIx2 (fVar 5) (fC (.int 1))) (fVar 6))))) (sDrop (fM .lst dAppend (fVar 11) (fCons (fTup (fCons (fVar 5) (fCons (fOp dIx2 (fVar 3) (fVar 8)) (fNil)))) (fNil)))) (sNil)))
def b_law_units : FS :=
  sSeq (sGc [3, 4, 5] (sWp [4, 5] (sSeq (sAsg (.tp [3, 4]) (fTup (fCons (fLstM (fNil)) (fCons (fC (.int 0)) (fNil))))) <|
  sWp [4] (sFor (fIter (fVar 0)) (.nm 5) (b_law_units_l1))))) <|
  sSeq (sGc [5, 6, 7, 8, 9, 10] (sWp [5, 8, 9, 10] (sSeq (sPar 6 7 (fCons (fLstM (fNil)) (fCons (fC .non) (fNil)))) <|
  sFor (fEnum (fVar 0)) (.tp [8, 5]) (b_law_units_l2)))) <|
  sSeq (sGc [5, 8, 11, 12] (sWp [5, 8, 12] (sSeq (sSet 11 (fLstM (fNil))) <|
  sFor (fEnum (fVar 0)) (.tp [8, 5]) (b_law_units_l3)))) <|
  sRet (fTup (fCons (fVar 11) (fCons (fVar 7) (fNil))))
def c_law_units : List D → Store → R D := callB 15 b_law_units
def b_law_without_l1 (r_law_without : List D → Store → R D) : FS :=
  sWp [2] (sIf (fTru (fOp dEq (fOp dIx2 (fVar 2) (fC (.int 0))) (fC (.str "hole")))) (sDrop (fM .lst dAppend (fVar 1) (fCons (fTup (fCons (fC (.str "hole")) (fCons (fOp dIx2 (fVar 2) (fC (.int 1))) (fCons (fCall r_law_without (fCons (fOp dIx2 (fVar 2) (fC (.int 2))) (fNil))) (fNil))))) (fNil)))) (sIf (fAnd (fTru (fOp dEq (fOp dIx2 (fVar 2) (fC (.int 0))) (fC (.str "text")))) (fAnd (fTru (fOp dNe (fVar 1) (fLst (fNil)))) (fTru (fOp dEq (fOp dIx2 (fOp dIx2 (fVar 1) (fNeg (fC (.int 1)))) (fC (.int 0))) (fC (.str "text")))))) (sDPutE (fVar 1) (fNeg (fC (.int 1))) (fTup (fCons (fC (.str "text")) (fCons (fSlice (fOp dAdd (fOp dIx2 (fOp dIx2 (fVar 1) (fNeg (fC (.int 1)))) (fC (.int 1))) (fOp dIx2 (fVar 2) (fC (.int 1)))) (fNoPart) (fPart (fC (.int 12)))) (fNil))))) (sIf (fTru (fOp dNe (fOp dIx2 (fVar 2) (fC (.int 0))) (fC (.str "same")))) (sDrop (fM .lst dAppend (fVar 1) (fCons (fVar 2) (fNil)))) (sNil))))
def b_law_without (r_law_without : List D → Store → R D) : FS :=
  sSeq (sSet 1 (fLstM (fNil))) <|
  sSeq (sFor (fIter (fVar 0)) (.nm 2) (b_law_without_l1 r_law_without)) <|
  sRet (fCB dTuple (fCons (fVar 1) (fNil)))
def cF_law_without : Nat → List D → Store → R D
  | 0 => fun _ _ => .stk
  | n + 1 => callB 3 (b_law_without (cF_law_without n))
abbrev c_law_without : List D → Store → R D := cF_law_without 16
def b_law_moved_l1 : FS :=
  sWp [5, 6, 7, 8] (sIf (fTru (fOp (dOrd iLe) (fVar 2) (fVar 7))) (sDrop (fM .lst dAppend (fVar 4) (fCons (fTup (fCons (fVar 5) (fCons (fVar 6) (fCons (fOp dAdd (fVar 7) (fVar 3)) (fCons (fOp dAdd (fVar 8) (fVar 3)) (fNil)))))) (fNil)))) (sIf (fTru (fOp (dOrd iGe) (fVar 1) (fVar 8))) (sDrop (fM .lst dAppend (fVar 4) (fCons (fTup (fCons (fVar 5) (fCons (fVar 6) (fCons (fVar 7) (fCons (fVar 8) (fNil)))))) (fNil)))) (sIf (fAnd (fTru (fOp (dOrd iLe) (fVar 7) (fVar 1))) (fTru (fOp (dOrd iLe) (fVar 2) (fVar 8)))) (sDrop (fM .lst dAppend (fVar 4) (fCons (fTup (fCons (fVar 5) (fCons (fVar 6) (fCons (fVar 7) (fCons (fOp dAdd (fVar 8) (fVar 3)) (fNil)))))) (fNil)))) (sNil))))
def b_law_moved : FS :=
  sSeq (sSet 4 (fLstM (fNil))) <|
  sSeq (sFor (fIter (fVar 0)) (.tp [5, 6, 7, 8]) (b_law_moved_l1)) <|
  sRet (fVar 4)
def c_law_moved : List D → Store → R D := callB 9 b_law_moved
def b_Shelf_init : FS :=
  sSeq (sFldE 21 "kept" (fVar 0) (fDNew)) <|
  sSeq (sFldE 21 "past" (fVar 0) (fLstM (fNil))) <|
  sFldE 21 "ahead" (fVar 0) (fLstM (fNil))
def c_Shelf_init : List D → Store → R D := callB 1 b_Shelf_init
def b_law_named : FS :=
  sRet (fOp dIx2 (fLst (fCons (fC (.str "for")) (fCons (fC (.str "if")) (fCons (fC (.str "ifelse")) (fCons (fC (.str "a")) (fCons (fC (.str "fortress")) (fCons (fC (.str "while")) (fNil)))))))) (fOp dMod (fVar 0) (fC (.int 6))))
def c_law_named : List D → Store → R D := callB 1 b_law_named
def b_is_name : FS :=
  sRet (fAndV (fIsi .str (fVar 0)) (fAndV (fChain (dOrd iLe) (dOrd iLe) (fC (.int 1)) (fCB dLen2 (fCons (fVar 0) (fNil))) (fC (.int 8))) (fCB dAll (fCons (fLc (fIter (fVar 0)) (.nm 1) (fYes) (fOp dIn2 (fVar 1) (fC (.str "abcdefghijklmnopqrstuvwxyz"))) [1]) (fNil)))))
def c_is_name : List D → Store → R D := callB 2 b_is_name
def b_Shelf_become : FS :=
  sSeq (sDrop (fM .lst dAppend (fFld 21 "past" (fVar 0)) (fCons (fFld 21 "kept" (fVar 0)) (fNil)))) <|
  sSeq (sFldE 21 "ahead" (fVar 0) (fLstM (fNil))) <|
  sFldE 21 "kept" (fVar 0) (fVar 1)
def c_Shelf_become : List D → Store → R D := callB 2 b_Shelf_become
def b_Shelf_keep : FS :=
  sSeq (sIf (fOr (fNot (fTru (fCall c_is_name (fCons (fVar 1) (fNil))))) (fAnd (fTru (fOp dNotIn2 (fVar 1) (fFld 21 "kept" (fVar 0)))) (fTru (fOp (dOrd iGe) (fCB dLen2 (fCons (fFld 21 "kept" (fVar 0)) (fNil))) (fC (.int 12)))))) (sRaise 9) (sNil)) <|
  sSeq (sDrop (fCall c_need_template (fCons (fVar 2) (fNil)))) <|
  sSeq (sGc [3] (sSeq (sSet 3 (fCB dDictCM (fCons (fFld 21 "kept" (fVar 0)) (fNil)))) <|
  sDPutE (fVar 3) (fVar 1) (fVar 2))) <|
  sDrop (fMeth 21 "become" c_Shelf_become (fVar 0) (fCons (fVar 3) (fNil)))
def c_Shelf_keep : List D → Store → R D := callB 4 b_Shelf_keep
def b_Shelf_need_there : FS :=
  sIf (fOr (fNot (fTru (fCall c_is_name (fCons (fVar 1) (fNil))))) (fTru (fOp dNotIn2 (fVar 1) (fFld 21 "kept" (fVar 0))))) (sRaise 9) (sNil)
def c_Shelf_need_there : List D → Store → R D := callB 2 b_Shelf_need_there
def b_Shelf_forget : FS :=
  sSeq (sDrop (fMeth 21 "need_there" c_Shelf_need_there (fVar 0) (fCons (fVar 1) (fNil)))) <|
  sDrop (fMeth 21 "become" c_Shelf_become (fVar 0) (fCons (fCB dDictC (fCons (fLc (fIter (fFld 21 "kept" (fVar 0))) (.nm 2) (fTru (fOp dNe (fVar 2) (fVar 1))) (fTup (fCons (fVar 2) (fCons (fOp dIx2 (fFld 21 "kept" (fVar 0)) (fVar 2)) (fNil)))) [2]) (fNil))) (fNil)))
def c_Shelf_forget : List D → Store → R D := callB 3 b_Shelf_forget
def b_Shelf_call : FS :=
  sSeq (sDrop (fMeth 21 "need_there" c_Shelf_need_there (fVar 0) (fCons (fVar 1) (fNil)))) <|
  sSeq (sIf (fOr (fNot (fTru (fCall c_is_name (fCons (fVar 2) (fNil))))) (fTru (fOp dIn2 (fVar 2) (fFld 21 "kept" (fVar 0))))) (sRaise 9) (sNil)) <|
  sSeq (sGc [3] (sSeq (sSet 3 (fCB dDictCM (fCons (fLc (fIter (fFld 21 "kept" (fVar 0))) (.nm 4) (fTru (fOp dNe (fVar 4) (fVar 1))) (fTup (fCons (fVar 4) (fCons (fOp dIx2 (fFld 21 "kept" (fVar 0)) (fVar 4)) (fNil)))) [4]) (fNil)))) <|
  sDPutE (fVar 3) (fVar 2) (fOp dIx2 (fFld 21 "kept" (fVar 0)) (fVar 1)))) <|
  sDrop (fMeth 21 "become" c_Shelf_become (fVar 0) (fCons (fVar 3) (fNil)))
def c_Shelf_call : List D → Store → R D := callB 5 b_Shelf_call
def b_Shelf_load_l1 : FS :=
  sWp [2, 4, 5, 6] (sSeq (sAsg (.tp [4, 5, 6]) (fM .str dPartition (fVar 2) (fCons (fC (.str " ")) (fNil)))) <|
  sSeq (sIf (fOr (fNot (fTru (fCall c_is_name (fCons (fVar 4) (fNil))))) (fOr (fTru (fOp dEq (fVar 5) (fC (.str "")))) (fOr (fTru (fOp dIn2 (fVar 4) (fVar 3))) (fTru (fOp (dOrd iGe) (fCB dLen2 (fCons (fVar 3) (fNil))) (fC (.int 12))))))) (sRaise 9) (sNil)) <|
  sDPutE (fVar 3) (fVar 4) (fCall c_read (fCons (fVar 6) (fNil))))
def b_Shelf_load : FS :=
  sSeq (sIf (fOr (fNot (fTru (fIsi .lst (fVar 1)))) (fNot (fTru (fCB dAll (fCons (fLc (fIter (fVar 1)) (.nm 2) (fYes) (fIsi .str (fVar 2)) [2]) (fNil)))))) (sRaise 1) (sNil)) <|
  sSeq (sGc [2, 3, 4, 5, 6] (sWp [2, 4, 5, 6] (sSeq (sSet 3 (fDNewM)) <|
  sFor (fIter (fVar 1)) (.nm 2) (b_Shelf_load_l1)))) <|
  sDrop (fMeth 21 "become" c_Shelf_become (fVar 0) (fCons (fVar 3) (fNil)))
def c_Shelf_load : List D → Store → R D := callB 7 b_Shelf_load
def b_Shelf_undo : FS :=
  sSeq (sIf (fTru (fOp dEq (fFld 21 "past" (fVar 0)) (fLst (fNil)))) (sRaise 8) (sNil)) <|
  sSeq (sDrop (fM .lst dAppend (fFld 21 "ahead" (fVar 0)) (fCons (fFld 21 "kept" (fVar 0)) (fNil)))) <|
  sFldE 21 "kept" (fVar 0) (fM0 .lst dPop (fFld 21 "past" (fVar 0)))
def c_Shelf_undo : List D → Store → R D := callB 1 b_Shelf_undo
def b_Shelf_redo : FS :=
  sSeq (sIf (fTru (fOp dEq (fFld 21 "ahead" (fVar 0)) (fLst (fNil)))) (sRaise 8) (sNil)) <|
  sSeq (sDrop (fM .lst dAppend (fFld 21 "past" (fVar 0)) (fCons (fFld 21 "kept" (fVar 0)) (fNil)))) <|
  sFldE 21 "kept" (fVar 0) (fM0 .lst dPop (fFld 21 "ahead" (fVar 0)))
def c_Shelf_redo : List D → Store → R D := callB 1 b_Shelf_redo
def b_Shelf_names : FS :=
  sRet (fCB dSorted (fCons (fFld 21 "kept" (fVar 0)) (fNil)))
def c_Shelf_names : List D → Store → R D := callB 1 b_Shelf_names
def b_Shelf_rows : FS :=
  sRet (fLc (fIter (fCB dSorted (fCons (fFld 21 "kept" (fVar 0)) (fNil)))) (.nm 1) (fYes) (fOp dAdd (fOp dAdd (fVar 1) (fC (.str " "))) (fCall c_written (fCons (fOp dIx2 (fFld 21 "kept" (fVar 0)) (fVar 1)) (fNil)))) [1])
def c_Shelf_rows : List D → Store → R D := callB 2 b_Shelf_rows
def b_Shelf_template : FS :=
  sSeq (sDrop (fMeth 21 "need_there" c_Shelf_need_there (fVar 0) (fCons (fVar 1) (fNil)))) <|
  sRet (fOp dIx2 (fFld 21 "kept" (fVar 0)) (fVar 1))
def c_Shelf_template : List D → Store → R D := callB 2 b_Shelf_template
def b_Shelf_starts : FS :=
  sSeq (sIf (fNot (fTru (fIsi .str (fVar 1)))) (sRaise 1) (sNil)) <|
  sRet (fLc (fIter (fCB dSorted (fCons (fFld 21 "kept" (fVar 0)) (fNil)))) (.nm 2) (fTru (fM .str dStartswith (fVar 2) (fCons (fVar 1) (fNil)))) (fVar 2) [2])
def c_Shelf_starts : List D → Store → R D := callB 3 b_Shelf_starts
def b_Shelf_row_of_l1 : FS :=
  sWp [2] (sDrop (fMeth 21 "need_there" c_Shelf_need_there (fVar 0) (fCons (fVar 2) (fNil))))
def b_Shelf_row_of_l2 : FS :=
  sWp [2] (sSet 3 (fCall c_joined (fCons (fVar 3) (fCons (fOp dIx2 (fFld 21 "kept" (fVar 0)) (fVar 2)) (fNil)))))
def b_Shelf_row_of : FS :=
  sSeq (sIf (fOr (fNot (fTru (fIsi .lst (fVar 1)))) (fTru (fOp dEq (fVar 1) (fLst (fNil))))) (sRaise 9) (sNil)) <|
  sSeq (sFor (fIter (fVar 1)) (.nm 2) (b_Shelf_row_of_l1)) <|
  sSeq (sSet 3 (fOp dIx2 (fFld 21 "kept" (fVar 0)) (fOp dIx2 (fVar 1) (fC (.int 0))))) <|
  sSeq (sFor (fIter (fSlice (fVar 1) (fPart (fC (.int 1))) (fNoPart))) (.nm 2) (b_Shelf_row_of_l2)) <|
  sRet (fVar 3)
def c_Shelf_row_of : List D → Store → R D := callB 4 b_Shelf_row_of
def b_law_joined : FS :=
  sSeq (sAsg (.tp [2, 3]) (fTup (fCons (fCB dMaxL (fCons (fOp dAdd (fLst (fCons (fC (.int 0)) (fNil))) (fCall c_law_homes (fCons (fVar 0) (fNil)))) (fNil))) (fCons (fCall c_law_homes (fCons (fVar 1) (fNil))) (fNil))))) <|
  sSeq (sIf (fTru (fOp (dOrd iGt) (fOp dAdd (fVar 2) (fCB dLen2 (fCons (fVar 3) (fNil)))) (fC (.int 9)))) (sRet (fC (.str "BadTemplate"))) (sNil)) <|
  sSeq (sSet 4 (fCB dDictC (fCons (fOp dAdd (fLc (fEnum (fVar 3)) (.tp [6, 7]) (fYes) (fTup (fCons (fVar 7) (fCons (fOp dAdd (fOp dAdd (fVar 2) (fC (.int 1))) (fVar 6)) (fNil)))) [6, 7]) (fLst (fCons (fTup (fCons (fC (.int 0)) (fCons (fC (.int 0)) (fNil)))) (fNil)))) (fNil)))) <|
  sSeq (sSet 5 (fCall c_law_met (fCons (fOp dAdd (fLc (fIter (fVar 0)) (.nm 8) (fTru (fOp dNe (fVar 8) (fTup (fCons (fC (.str "hole")) (fCons (fC (.int 0)) (fCons (fTup (fNil)) (fNil))))))) (fVar 8) [8]) (fCB dList (fCons (fCall c_law_called (fCons (fVar 1) (fCons (fVar 4) (fNil)))) (fNil)))) (fNil)))) <|
  sSeq (sIf (fOr (fTru (fOp (dOrd iGt) (fCall c_law_many_parts (fCons (fVar 5) (fNil))) (fC (.int 12)))) (fTru (fOp (dOrd iGt) (fCB dMaxL (fCons (fOp dAdd (fLst (fCons (fC (.int 0)) (fNil))) (fLc (fIter (fVar 5)) (.nm 8) (fTru (fOp dEq (fOp dIx2 (fVar 8) (fC (.int 0))) (fC (.str "text")))) (fCB dLen2 (fCons (fOp dIx2 (fVar 8) (fC (.int 1))) (fNil))) [8])) (fNil))) (fC (.int 12))))) (sRet (fC (.str "BadTemplate"))) (sNil)) <|
  sRet (fVar 5)
def c_law_joined : List D → Store → R D := callB 9 b_law_joined
def b_law_copy (r_law_copy : List D → Store → R D) : FS :=
  sSeq (sIf (fTru (fIsi .lst (fVar 0))) (sRet (fLc (fIter (fVar 0)) (.nm 1) (fYes) (fCall r_law_copy (fCons (fVar 1) (fNil))) [1])) (sNil)) <|
  sSeq (sIf (fTru (fIsi .tup (fVar 0))) (sRet (fCB dTuple (fCons (fLc (fIter (fVar 0)) (.nm 1) (fYes) (fCall r_law_copy (fCons (fVar 1) (fNil))) [1]) (fNil)))) (sNil)) <|
  sSeq (sIf (fTru (fIsi .dic (fVar 0))) (sRet (fCB dDictC (fCons (fLc (fIter (fVar 0)) (.nm 2) (fYes) (fTup (fCons (fVar 2) (fCons (fCall r_law_copy (fCons (fOp dIx2 (fVar 0) (fVar 2)) (fNil))) (fNil)))) [2]) (fNil)))) (sNil)) <|
  sRet (fVar 0)
def cF_law_copy : Nat → List D → Store → R D
  | 0 => fun _ _ => .stk
  | n + 1 => callB 3 (b_law_copy (cF_law_copy n))
abbrev c_law_copy : List D → Store → R D := cF_law_copy 16
end Pg
/-! PgB: what the laws' own drawing defs give. -/
namespace Pg
open PySem Hw
def al : List Nat := [97, 98, 99, 122, 65, 66, 67, 90, 49, 32, 95, 45, 46]
theorem log_lt {n k : Nat} (h : n < 2 ^ k) (hk : 0 < k) : n.log2 < k := by
  by_cases z : n = 0
  · subst z; exact hk
  · exact (Nat.log2_lt z).mpr h
theorem mulOk_of {i j : Int} {n m : Nat} (hi : i.natAbs < 2 ^ n) (hj : j.natAbs < 2 ^ m) (hn : 0 < n) (hm : 0 < m) (h : n + m ≤ 1000000) : mulOk i j = true := by
  have a := log_lt hi hn
  have b := log_lt hj hm
  unfold mulOk
  have c : i.natAbs.log2 + j.natAbs.log2 < 1000000 := by omega
  rw [decide_eq_true c, Bool.or_true]
theorem drawn_ok (c k : Int) : ∃ d : Int, 0 ≤ d ∧ d < 2 ^ 129 ∧ ∀ st : Store, c_law_drawn [.int c, .int k] st = .ok (.int d) st := by
  have h1 : mulOk c 6364136223846793005 = true := by
    unfold mulOk
    simp
  have h2 : mulOk (k + 1) 1442695040888963407 = true := by
    unfold mulOk
    simp
  have p1 := Int.emod_nonneg (c * 6364136223846793005 + (k + 1) * 1442695040888963407) (show (340282366920938463463374607431768211507 : Int) ≠ 0 by decide)
  have p2 := Int.emod_lt_of_pos (c * 6364136223846793005 + (k + 1) * 1442695040888963407) (show (0 : Int) < 340282366920938463463374607431768211507 by decide)
  generalize hm : (c * 6364136223846793005 + (k + 1) * 1442695040888963407) % 340282366920938463463374607431768211507 = m at p1 p2
  have h3 : mulOk m m = true := mulOk_of (n := 129) (m := 129) (by omega) (by omega) (by omega) (by omega) (by omega)
  have q1 := Int.emod_nonneg (m * m) (show (340282366920938463463374607431768211297 : Int) ≠ 0 by decide)
  have q2 := Int.emod_lt_of_pos (m * m) (show (0 : Int) < 340282366920938463463374607431768211297 by decide)
  generalize hn : (m * m) % 340282366920938463463374607431768211297 = n at q1 q2
  have a1 := Int.emod_nonneg n (show (18446744073709551557 : Int) ≠ 0 by decide)
  have a2 := Int.emod_lt_of_pos n (show (0 : Int) < 18446744073709551557 by decide)
  have b1 : 0 ≤ n / 18446744073709551557 := Int.ediv_nonneg q1 (by decide)
  have b2 : n / 18446744073709551557 < 2 ^ 65 := by omega
  have h4 : mulOk (n % 18446744073709551557 + 1) (n / 18446744073709551557 + 1) = true := mulOk_of (n := 70) (m := 70) (by omega) (by omega) (by omega) (by omega) (by omega)
  have h5 : mulOk ((n % 18446744073709551557 + 1) * (n / 18446744073709551557 + 1)) n = true := by
    refine mulOk_of (n := 140) (m := 140) ?_ (by omega) (by omega) (by omega) (by omega)
    rw [Int.natAbs_mul]
    have x1 : (n % 18446744073709551557 + 1).natAbs < 2 ^ 70 := by omega
    have x2 : (n / 18446744073709551557 + 1).natAbs < 2 ^ 70 := by omega
    calc _ < 2 ^ 70 * 2 ^ 70 := Nat.mul_lt_mul'' x1 x2
      _ = 2 ^ 140 := by decide
  refine ⟨((n % 18446744073709551557 + 1) * (n / 18446744073709551557 + 1) * n) % 340282366920938463463374607431768211507, Int.emod_nonneg _ (by decide), ?_, fun st => ?_⟩
  · have := Int.emod_lt_of_pos ((n % 18446744073709551557 + 1) * (n / 18446744073709551557 + 1) * n) (show (0 : Int) < 340282366920938463463374607431768211507 by decide)
    omega
  · refine callB_rt ?_ rfl
    have e : startD 3 [.int c, .int k] = [some (.int c), some (.int k), none] := rfl
    rw [e]
    simp only [b_law_drawn, sSeq, sSet, sRet, fOp, fVar, fC, R.bind, R.thn, F.then, R.of, dMod, dMul2, dMulD, dMul, dAdd, dDiv, List.getElem?_cons_zero, List.getElem?_cons_succ, List.set_cons_zero, List.set_cons_succ, h1, h2, if_true, hm]
    have hl : Nat.log2 18446744073709551557 < 9000 := by decide +kernel
    simp [h3, hn, h4, h5, hl]
theorem cell_ok (ns : List Int) (hl : ns.length ≤ 63) (k : Int) (hk : 0 ≤ k) (st : Store) : ∃ c : Int, c_law_cell [.lst (ns.map D.int), .int k] st = .ok (.int c) st := by
  have m1 : ∀ i, mulOk i 7919 = true := fun i => mulOk_c (by omega)
  have m2 : ∀ i, mulOk i 104729 = true := fun i => mulOk_c (by omega)
  have e : startD 2 [.lst (ns.map D.int), .int k] = [some (.lst (ns.map D.int)), some (.int k)] := rfl
  by_cases hn : ns = []
  · refine ⟨k * 7919, callB_rt ?_ rfl⟩
    rw [e]
    have hz : ns.isEmpty = true := by rw [hn] <;> rfl
    simp only [b_law_cell, sSeq, sIf, sRet, fOp, fTru, fLst, fNil, fVar, fC, R.bind, R.thn, F.then, R.of, List.getElem?_cons_zero, List.getElem?_cons_succ, small, List.length_nil, Nat.zero_le, decide_true, if_true, dEq_nil, hz, dMul2, dMulD, dMul, m1]
  · have hz : ns.isEmpty = false := by cases ns <;> first | exact absurd rfl hn | rfl
    have hp : 0 < ns.length := by cases ns <;> first | exact absurd rfl hn | simp
    have hpi : (0 : Int) < (ns.length : Nat) := by omega
    obtain ⟨x, hx, ha⟩ := atI_in (xs := ns) (i := k % (ns.length : Nat)) (Int.emod_nonneg _ (by omega)) (Int.emod_lt_of_pos _ hpi)
    have ha2 : L2.atI (ns.map D.int) (k % (ns.length : Nat)) = some (.int x) := by
      obtain ⟨y, hy, hb⟩ := atI_in (xs := ns.map D.int) (i := k % (ns.length : Nat)) (Int.emod_nonneg _ (by omega)) (by rw [List.length_map]; exact Int.emod_lt_of_pos _ hpi)
      rw [List.getElem?_map, hx] at hy
      rw [hb, ← hy] <;> rfl
    have hlog : ((ns.length : Nat) : Int).natAbs.log2 < 9000 := by
      have := log_lt (n := ((ns.length : Nat) : Int).natAbs) (k := 9000) (Nat.lt_of_le_of_lt (show _ ≤ 63 by omega) (Nat.lt_of_lt_of_le (by decide : 63 < 2 ^ 6) (Nat.pow_le_pow_right (by decide) (by decide)))) (by decide)
      exact this
    refine ⟨x + k / (ns.length : Nat) * 104729, callB_rt ?_ rfl⟩
    rw [e]
    have hlen : dLen2 [.lst (ns.map D.int)] st = some (.int (ns.length : Nat), st) := by
      simp only [dLen2, dicOf, dLen, seqOf, Hw.listOf, Option.map_some, List.length_map]
    have hix : dIx2 (.lst (ns.map D.int)) (.int (k % (ns.length : Nat))) st = some (.int x, st) := by
      simp only [dIx2, dicOf, dIx, seqOf, Hw.listOf, Option.bind_some, ha2, Option.map_some]
    simp only [b_law_cell, sSeq, sIf, sRet, sNil, fOp, fTru, fLst, fNil, fCB, fCons, fVar, fC, R.bind, R.thn, F.then, R.of, List.getElem?_cons_zero, List.getElem?_cons_succ, small, List.length_nil, Nat.zero_le, decide_true, if_true, dEq_nil, hz, Bool.false_eq_true, if_false, hlen, dMod, dDiv, hpi, hlog, Bool.and_self, hix, dMul2, dMulD, dMul, m2, dAdd]
noncomputable def dr (c k : Int) : Int := Classical.choose (drawn_ok c k)
theorem dr_ok (c k : Int) : 0 ≤ dr c k ∧ dr c k < 2 ^ 129 ∧ ∀ st : Store, c_law_drawn [.int c, .int k] st = .ok (.int (dr c k)) st := Classical.choose_spec (drawn_ok c k)
def ab : List Nat := [97, 98, 99, 65, 66, 67, 49, 32, 95, 45, 46, 122]
noncomputable def sg (m : Int) (j : Int) : Nat := ab.getD (dr m j / 8 % 12).toNat 97
theorem sg_al (m j : Int) : sg m j ∈ al := by
  unfold sg
  have h : ∀ i, i < 12 → ab.getD i 97 ∈ al := by decide
  exact h _ (by have := Int.emod_lt_of_pos (dr m j / 8) (show (0 : Int) < 12 by decide); have := Int.emod_nonneg (dr m j / 8) (show (12 : Int) ≠ 0 by decide); omega)
def hD (f : Int → Nat) : D → D
  | .int j => .str (S [f j])
  | d => d
noncomputable def sgs (m : Int) (n : Nat) : List Nat := (List.range n).map fun i => sg m (i : Nat)
theorem signs_ok (m lo hi : Int) (h0 : 0 ≤ lo) (h1 : lo ≤ hi) (h2 : hi ≤ 30) (st : Store) : ∃ n : Nat, (n : Int) ≤ hi ∧ c_law_signs [.int m, .int lo, .int hi] st = .ok (.str (S (sgs m n))) st := by
  have z1 := Int.emod_nonneg m (show hi - lo + 1 ≠ 0 by omega)
  have z2 := Int.emod_lt_of_pos m (show 0 < hi - lo + 1 by omega)
  refine ⟨(lo + m % (hi - lo + 1)).toNat, by omega, callB_rt ?_ rfl⟩
  have hp : decide (0 < hi - lo + 1) = true := decide_eq_true (by omega)
  generalize hz : lo + m % (hi - lo + 1) = z at *
  have hr : rngOk z = true := decide_eq_true (by omega)
  have e : startD 5 [.int m, .int lo, .int hi] = [some (.int m), some (.int lo), some (.int hi), none, none] := rfl
  rw [e]
  have elem : ∀ x ∈ rangeD 0 z, ∃ σ1, (Tg.nm 4).d x (wipeD [some (.int m), some (.int lo), some (.int hi), some (.int z), none] [4]) = some σ1 ∧
      (fOp dIx2 (fC (.str "abcABC1 _-.z")) (fOp dMod (fOp dDiv (fCall c_law_drawn (fCons (fVar 0) (fCons (fVar 4) (fNil)))) (fC (.int 8))) (fC (.int 12)))) σ1 st = .ok (hD (sg m) x) st := by
    intro x hx
    obtain ⟨i, hi, ex⟩ := List.mem_map.mp hx
    subst ex
    refine ⟨_, rfl, ?_⟩
    obtain ⟨d0, d1, d2⟩ := dr_ok m (0 + (i : Nat))
    have hl8 : Nat.log2 8 < 9000 := by decide +kernel
    have w1 := Int.emod_nonneg (dr m (0 + (i : Nat)) / 8) (show (12 : Int) ≠ 0 by decide)
    have w2 := Int.emod_lt_of_pos (dr m (0 + (i : Nat)) / 8) (show (0 : Int) < 12 by decide)
    have hat : L2.atI (("abcABC1 _-.z" : Str).cps.toList) (dr m (0 + (i : Nat)) / 8 % 12) = some (sg m (0 + (i : Nat))) := by
      show L2.atI ab _ = _
      obtain ⟨x, hx, ha⟩ := atI_in (xs := ab) w1 w2
      rw [ha]
      unfold sg
      rw [List.getD_eq_getElem?_getD, hx] <;> rfl
    have hsm : small (("abcABC1 _-.z" : Str).length) = true := by decide +kernel
    simp only [fOp, fC, fCall, fCons, fNil, fVar, R.bind, R.of, wipeD, List.set_cons_zero, List.set_cons_succ, List.getElem?_cons_zero, List.getElem?_cons_succ, d2, dDiv, dMod, dIx2, dicOf, dIx, hD]
    simp only [Int.zero_add] at hat
    simp [hl8, hat, hsm]
    rfl
  have hlc := fLc_map (fi := fRange1 (fCons (fVar 3) (fNil))) (T := .nm 4) (vs := [4]) (σ := [some (.int m), some (.int lo), some (.int hi), some (.int z), none]) (st := st) (xs := rangeD 0 z) (h := hD (sg m))
    (by simp only [fRange1, fCons, fNil, fVar, R.bind, List.getElem?_cons_zero, List.getElem?_cons_succ, hr, if_true]) (by simp [rangeD]; omega) elem
  have hmap : (rangeD 0 z).map (hD (sg m)) = ((sgs m z.toNat).map fun c => S [c]).map D.str := by
    unfold rangeD sgs
    rw [Int.sub_zero]
    simp [List.map_map, hD, Function.comp_def]
  have hj : dJoin (.str "") [.lst ((rangeD 0 z).map (hD (sg m)))] st = some (.str (S (sgs m z.toNat)), st) := by
    rw [hmap]
    exact dJoin_S (by simp [sgs]; omega) st
  simp only [b_law_signs, sSeq, sSet, sRet, fOp, fVar, fC, R.bind, R.thn, F.then, R.of, List.getElem?_cons_zero, List.getElem?_cons_succ, dSub, dAdd, dMod, hp, if_true, hz, List.set_cons_zero, List.set_cons_succ]
  simp only [fM, fC, R.bind, fCons, hlc, fNil, hj, R.of, R.thn, isTy, if_true]
/-! ### a law's loop over its rounds -/
theorem loopC_congr {T : Tg} {f f' : FE} {σ : Hw.Env} : ∀ {xs : List D} {st : Store}, (∀ x ∈ xs, ∀ σ1, T.d x σ = some σ1 → ∀ st, f σ1 st = f' σ1 st) → loopC T fYes f xs σ st = loopC T fYes f' xs σ st
  | [], _, _ => rfl
  | x :: xs, st, H => by
    unfold loopC
    cases e : T.d x σ with
    | none => rfl
    | some σ1 =>
      have h1 := H x List.mem_cons_self σ1 e
      have h2 : ∀ st, loopC T fYes f xs σ st = loopC T fYes f' xs σ st := fun st => loopC_congr fun y hy => H y (List.mem_cons_of_mem _ hy)
      simp only [h1, h2]
theorem fLc_congr {fi : FI} {T : Tg} {f f' : FE} {vs : List Nat} {σ : Hw.Env} {st : Store} (H : ∀ x σ1, T.d x (wipeD σ vs) = some σ1 → ∀ st, f σ1 st = f' σ1 st) : fLc fi T fYes f vs σ st = fLc fi T fYes f' vs σ st := by
  unfold fLc
  cases e : fi σ st with
  | ok xs st1 => simp only [R.bind, loopC_congr fun x _ σ1 h st => H x σ1 h st]
  | exc c st1 => rfl
  | stk => rfl
theorem gcwp_congr {vs ws : List Nat} {f f' : FS} {σ : Hw.Env} {st : Store} (h : f σ st = f' σ st) : sGc vs (sWp ws f) σ st = sGc vs (sWp ws f') σ st := by
  unfold sGc sWp
  rw [h]
theorem gcwp_of {vs ws : List Nat} {f : FS} {F0 : F} {σ : Hw.Env} {st : Store} (h : f σ st = F0) : sGc vs (sWp ws f) σ st = sGc vs (sWp ws fun _ _ => F0) σ st := gcwp_congr h
theorem seq_to {f k : FS} {σ σ' : Hw.Env} {st st' : Store} {F0 : F} (h : f σ st = .nx σ' st') (q : k σ' st' = F0) : sSeq f k σ st = F0 := (seq_nx h).trans q
theorem mem_range {x : D} {n : Int} (h : x ∈ rangeD 0 n) : ∃ i : Int, x = .int i ∧ 0 ≤ i := by
  obtain ⟨i, _, e⟩ := List.mem_map.mp h
  exact ⟨0 + (i : Nat), e.symm, by omega⟩
theorem dLen2_ints (ns : List Int) (st : Store) : dLen2 [.lst (ns.map D.int)] st = some (.int (ns.length : Nat), st) := by
  simp only [dLen2, dicOf, dLen, seqOf, Hw.listOf, Option.map_some, List.length_map]
/-- a law: for k in range(max(1, min(c, len(script)))): body; return True -/
theorem law_rounds {m : Nat} {c : Int} {f b : FS} {ns : List Int} (hc : 0 ≤ c) (hc2 : c ≤ 1000)
    (ef : f = sSeq (sFor (fRange1 (fCons (fCB dMax (fCons (fC (.int 1)) (fCons (fCB dMin (fCons (fC (.int c)) (fCons (fCB dLen2 (fCons (fVar 0) fNil)) fNil))) fNil))) fNil)) (.nm 1) b) (sRet (fC (.bl true))))
    (hb : ∀ k : Int, 0 ≤ k → b (some (.lst (ns.map D.int)) :: some (.int k) :: List.replicate m none) [] = .nx (some (.lst (ns.map D.int)) :: none :: List.replicate m none) []) :
    ∃ st, callB (m + 2) f [.lst (ns.map D.int)] [] = .ok (.bl true) st := by
  have hs : startD (m + 2) [.lst (ns.map D.int)] = some (.lst (ns.map D.int)) :: none :: List.replicate m none := by
    show some _ :: List.replicate (m + 2 - 1) none = _
    rw [show m + 2 - 1 = m + 1 by omega, List.replicate_succ]
  obtain ⟨n, hn, hr⟩ : ∃ n : Int, (fCB dMax (fCons (fC (.int 1)) (fCons (fCB dMin (fCons (fC (.int c)) (fCons (fCB dLen2 (fCons (fVar 0) fNil)) fNil))) fNil))) (some (.lst (ns.map D.int)) :: none :: List.replicate m none) [] = .ok (.int n) [] ∧ rngOk n = true := by
    simp only [fCB, fCons, fNil, fC, fVar, R.bind, List.getElem?_cons_zero, dLen2_ints, R.of]
    by_cases h1 : (ns.length : Int) < c
    · by_cases h2 : (1 : Int) < (ns.length : Int)
      · exact ⟨ns.length, by simp [dMin, dMax, h1, h2], decide_eq_true (by omega)⟩
      · exact ⟨1, by simp [dMin, dMax, h1]; omega, by decide⟩
    · by_cases h2 : (1 : Int) < c
      · exact ⟨c, by simp [dMin, dMax, h1, h2], decide_eq_true (by omega)⟩
      · exact ⟨1, by simp [dMin, dMax, h1]; omega, by decide⟩
  have hfi : fRange1 (fCons (fCB dMax (fCons (fC (.int 1)) (fCons (fCB dMin (fCons (fC (.int c)) (fCons (fCB dLen2 (fCons (fVar 0) fNil)) fNil))) fNil))) fNil) (some (.lst (ns.map D.int)) :: none :: List.replicate m none) [] = .ok (rangeD 0 n) [] := by
    unfold fRange1
    rw [show fCons (fCB dMax (fCons (fC (.int 1)) (fCons (fCB dMin (fCons (fC (.int c)) (fCons (fCB dLen2 (fCons (fVar 0) fNil)) fNil))) fNil))) fNil (some (.lst (ns.map D.int)) :: none :: List.replicate m none) [] = .ok [.int n] [] by
      show R.bind _ _ = _
      rw [hn]
      rfl]
    simp only [R.bind, hr, if_true]
  obtain ⟨σ', st', e1, e2⟩ := loopF_inv (T := .nm 1) (b := b) (fun xs σ st => σ = some (.lst (ns.map D.int)) :: none :: List.replicate m none ∧ st = [] ∧ ∀ x ∈ xs, ∃ i : Int, x = .int i ∧ 0 ≤ i) (xs := rangeD 0 n) ⟨rfl, rfl, fun x hx => mem_range hx⟩ (fun x r σ st h => by
    obtain ⟨e1, e2, h3⟩ := h
    obtain ⟨i, ex, hi⟩ := h3 x List.mem_cons_self
    subst ex e1 e2
    exact ⟨_, _, _, rfl, .inl (hb i hi), rfl, rfl, fun y hy => h3 y (List.mem_cons_of_mem _ hy)⟩)
  refine ⟨[], callB_rt ?_ rfl⟩
  rw [hs, ef]
  refine (seq_nx ((for_ok hfi).trans e1)).trans ?_
  rw [e2.2.1]
  rfl
end Pg
namespace K82
open PySem PySem.Spec PyProof.Rows L2 Hw Pg
def top (i : Nat) : Stmt := PySem.Challenge.pw_holewalks_k82_shelves_refused.main.body.getD i (.Pass ⟨0, 0, 0, 0⟩)
/-! ### the evaluator's terms -/
def wd (c : Nat) : Str := (["BadTemplate", "BadText", "BadNumber", "BadPlace", "NoHole", "NoChoice", "TooLong", "Over", "Nothing", "BadName"] : List Str).getD c "other"
def b_Shelf_walk : FS :=
  sSeq (sDrop (fMeth 21 "need_there" c_Shelf_need_there (fVar 0) (fCons (fVar 1) (fNil)))) <|
  sRet (fStk)
def c_Shelf_walk : List D → Store → R D := callB 2 b_Shelf_walk
def b_Shelf_row_of_l1 : FS :=
  sWp [2] (sDrop (fMeth 21 "need_there" c_Shelf_need_there (fVar 0) (fCons (fVar 2) (fNil))))
def b_Shelf_row_of_l2 : FS :=
  sWp [2] (sSet 3 (fStk))
def b_Shelf_row_of : FS :=
  sSeq (sIf (fOr (fNot (fTru (fIsi .lst (fVar 1)))) (fTru (fOp dEq (fVar 1) (fLst (fNil))))) (sRaise 9) (sNil)) <|
  sSeq (sFor (fIter (fVar 1)) (.nm 2) (b_Shelf_row_of_l1)) <|
  sSeq (sSet 3 (fOp dIx2 (fFld 21 "kept" (fVar 0)) (fOp dIx2 (fVar 1) (fC (.int 0))))) <|
  sSeq (sFor (fIter (fSlice (fVar 1) (fPart (fC (.int 1))) (fNoPart))) (.nm 2) (b_Shelf_row_of_l2)) <|
  sRet (fVar 3)
def c_Shelf_row_of : List D → Store → R D := callB 4 b_Shelf_row_of
def b_law_rows_bad_l1 : FS :=
  sWp [2] (sIf (fTru (fOp dNe (fTold 10 wd (fMeth 21 "load" c_Shelf_load (fVar 0) (fCons (fVar 2) (fNil)))) (fLst (fCons (fC (.str "BadText")) (fNil))))) (sRet (fC (.bl false))) (sNil))
def b_law_rows_bad_l2 : FS :=
  sWp [2] (sIf (fTru (fOp dNe (fTold 10 wd (fMeth 21 "load" c_Shelf_load (fVar 0) (fCons (fVar 2) (fNil)))) (fLst (fCons (fC (.str "BadName")) (fNil))))) (sRet (fC (.bl false))) (sNil))
def b_law_rows_bad_l3 : FS :=
  sWp [2] (sIf (fTru (fOp dNe (fTold 10 wd (fMeth 21 "load" c_Shelf_load (fVar 0) (fCons (fVar 2) (fNil)))) (fLst (fCons (fC (.str "BadText")) (fNil))))) (sRet (fC (.bl false))) (sNil))
def b_law_rows_bad : FS :=
  sSeq (sFor (fIter (fLst (fCons (fC .non) (fCons (fTup (fNil)) (fCons (fC (.str "a b")) (fCons (fLst (fCons (fC .non) (fNil))) (fCons (fLst (fCons (fC (.str "a b")) (fCons (fC (.int 5)) (fNil)))) (fNil)))))))) (.nm 2) (b_law_rows_bad_l1)) <|
  sSeq (sFor (fIter (fLst (fCons (fLst (fCons (fC (.str "")) (fNil))) (fCons (fLst (fCons (fC (.str "a")) (fNil))) (fCons (fLst (fCons (fC (.str " a")) (fNil))) (fCons (fLst (fCons (fC (.str "A b")) (fNil))) (fCons (fLst (fCons (fC (.str "ninesigns b")) (fNil))) (fCons (fLst (fCons (fC (.str "a b")) (fCons (fC (.str "a c")) (fNil)))) (fCons (fLst (fCons (fC (.str "B")) (fNil))) (fCons (fOp dAdd (fVar 1) (fLst (fCons (fC (.str "thirteen b")) (fNil)))) (fNil))))))))))) (.nm 2) (b_law_rows_bad_l2)) <|
  sSeq (sFor (fIter (fLst (fCons (fLst (fCons (fC (.str "a <1:b")) (fNil))) (fCons (fLst (fCons (fC (.str "b x")) (fCons (fC (.str "a <")) (fNil)))) (fCons (fLst (fCons (fC (.str "a >")) (fNil))) (fCons (fLst (fCons (fC (.str "a <1:>")) (fCons (fC (.str "b <1>")) (fNil)))) (fCons (fLst (fCons (fC (.str "a <0|b|c>")) (fNil))) (fCons (fLst (fCons (fOp dAdd (fC (.str "a ")) (fOp dMul2 (fC (.str "b")) (fC (.int 13)))) (fNil))) (fNil))))))))) (.nm 2) (b_law_rows_bad_l3)) <|
  sRet (fOp dEq (fMeth 21 "rows" c_Shelf_rows (fVar 0) fNil) (fVar 1))
def c_law_rows_bad : List D → Store → R D := callB 3 b_law_rows_bad
def b_law_l1 : FS :=
  sGc [3, 5] (sWp [3, 5] (sSeq (sGc [3] (sSeq (sSet 3 (fLstM (fCons (fTold 10 wd (fMeth 21 "keep" c_Shelf_keep (fVar 7) (fCons (fVar 5) (fCons (fC .non) (fNil))))) (fNil)))) <|
  sSeq (sDrop (fM .lst dAppend (fVar 3) (fCons (fTold 10 wd (fMeth 21 "forget" c_Shelf_forget (fVar 7) (fCons (fVar 5) (fNil)))) (fNil)))) <|
  sSeq (sDrop (fM .lst dAppend (fVar 3) (fCons (fTold 10 wd (fMeth 21 "call" c_Shelf_call (fVar 7) (fCons (fVar 5) (fCons (fC .non) (fNil))))) (fNil)))) <|
  sSeq (sDrop (fM .lst dAppend (fVar 3) (fCons (fTold 10 wd (fMeth 21 "template" c_Shelf_template (fVar 7) (fCons (fVar 5) (fNil)))) (fNil)))) <|
  sSeq (sDrop (fM .lst dAppend (fVar 3) (fCons (fTold 10 wd (fMeth 21 "walk" c_Shelf_walk (fVar 7) (fCons (fVar 5) (fNil)))) (fNil)))) <|
  sDrop (fM .lst dAppend (fVar 3) (fCons (fTold 10 wd (fMeth 21 "row_of" c_Shelf_row_of (fVar 7) (fCons (fLst (fCons (fVar 5) (fNil))) (fNil)))) (fNil))))) <|
  sIf (fTru (fOp dNe (fVar 3) (fOp dMul2 (fLst (fCons (fLst (fCons (fC (.str "BadName")) (fNil))) (fNil))) (fC (.int 6))))) (sRet (fC (.bl false))) (sNil)))
def b_law_l2 : FS :=
  sWp [5] (sIf (fTru (fOp dNe (fTold 10 wd (fMeth 21 "keep" c_Shelf_keep (fVar 7) (fCons (fC (.str "a")) (fCons (fVar 5) (fNil))))) (fLst (fCons (fC (.str "BadTemplate")) (fNil))))) (sRet (fC (.bl false))) (sNil))
def b_law_l3 : FS :=
  sWp [4] (sDrop (fMeth 21 "keep" c_Shelf_keep (fVar 7) (fCons (fVar 4) (fCons (fVar 8) (fNil)))))
def b_law_l4 : FS :=
  sWp [5] (sIf (fTru (fOp dNe (fTold 10 wd (fMeth 21 "keep" c_Shelf_keep (fVar 7) (fCons (fVar 5) (fCons (fVar 8) (fNil))))) (fLst (fCons (fC (.str "BadName")) (fNil))))) (sRet (fC (.bl false))) (sNil))
def b_law_l5 : FS :=
  sWp [5] (sIf (fTru (fOp dNe (fTold 10 wd (fMeth 21 "call" c_Shelf_call (fVar 7) (fCons (fOp dIx2 (fVar 6) (fC (.int 0))) (fCons (fVar 5) (fNil))))) (fLst (fCons (fC (.str "BadName")) (fNil))))) (sRet (fC (.bl false))) (sNil))
def b_law_l6 : FS :=
  sWp [5] (sIf (fTru (fOp dNe (fTold 10 wd (fMeth 21 "row_of" c_Shelf_row_of (fVar 7) (fCons (fVar 5) (fNil)))) (fLst (fCons (fC (.str "BadName")) (fNil))))) (sRet (fC (.bl false))) (sNil))
def b_law_l7 : FS :=
  sWp [5] (sIf (fTru (fOp dNe (fTold 10 wd (fMeth 21 "starts" c_Shelf_starts (fVar 7) (fCons (fVar 5) (fNil)))) (fLst (fCons (fC (.str "BadText")) (fNil))))) (sRet (fC (.bl false))) (sNil))
def b_law_l8 : FS :=
  sGc [1, 2, 3, 4, 5, 6, 7, 8] (sWp [1, 2, 3, 4, 5, 6, 7, 8] (sSeq (sSet 2 (fCall c_law_drawn (fCons (fCall c_law_cell (fCons (fVar 0) (fCons (fVar 1) (fNil)))) (fCons (fVar 1) (fNil))))) <|
  sSeq (sAsg (.tp [7, 8]) (fTup (fCons (fMake 21 c_Shelf_init fNil) (fCons (fTup (fCons (fTup (fCons (fC (.str "text")) (fCons (fC (.str "b")) (fNil)))) (fNil))) (fNil))))) <|
  sSeq (sFor (fIter (fLst (fCons (fC .non) (fCons (fC (.str "")) (fCons (fC (.str "A")) (fCons (fC (.str "ninesigns")) (fCons (fC (.str "a1")) (fCons (fC (.int 5)) (fCons (fTup (fCons (fC (.str "a")) (fNil))) (fNil)))))))))) (.nm 5) (b_law_l1)) <|
  sSeq (sFor (fIter (fLst (fCons (fC .non) (fCons (fLst (fNil)) (fCons (fTup (fCons (fTup (fCons (fC (.str "text")) (fCons (fC (.str "")) (fNil)))) (fNil))) (fCons (fTup (fCons (fTup (fCons (fC (.str "text")) (fCons (fOp dMul2 (fC (.str "b")) (fC (.int 13))) (fNil)))) (fNil))) (fCons (fTup (fCons (fTup (fCons (fC (.str "hole")) (fCons (fC (.int 1)) (fNil)))) (fNil))) (fCons (fTup (fCons (fTup (fCons (fC (.str "same")) (fCons (fC (.int 1)) (fCons (fC (.str "up")) (fNil))))) (fNil))) (fCons (fC (.str "b")) (fNil)))))))))) (.nm 5) (b_law_l2)) <|
  sSeq (sIf (fOr (fTru (fOp dNe (fTold 10 wd (fMeth 21 "undo" c_Shelf_undo (fVar 7) fNil)) (fLst (fCons (fC (.str "Nothing")) (fNil))))) (fTru (fOp dNe (fMeth 21 "names" c_Shelf_names (fVar 7) fNil) (fLst (fNil))))) (sRet (fC (.bl false))) (sNil)) <|
  sSeq (sSet 6 (fLc (fRange1 (fCons (fC (.int 12)) (fNil))) (.nm 9) (fYes) (fOp dAdd (fSlice (fC (.str "abcdefghijkl")) (fPart (fVar 9)) (fPart (fOp dAdd (fOp dAdd (fVar 9) (fC (.int 1))) (fOp dMod (fVar 2) (fC (.int 3)))))) (fC (.str "z"))) [9])) <|
  sSeq (sFor (fIter (fVar 6)) (.nm 4) (b_law_l3)) <|
  sSeq (sFor (fIter (fLst (fCons (fC (.str "thirteen")) (fCons (fC (.str "q")) (fNil))))) (.nm 5) (b_law_l4)) <|
  sSeq (sDrop (fMeth 21 "keep" c_Shelf_keep (fVar 7) (fCons (fOp dIx2 (fVar 6) (fC (.int 0))) (fCons (fVar 8) (fNil))))) <|
  sSeq (sFor (fIter (fLst (fCons (fOp dIx2 (fVar 6) (fC (.int 1))) (fCons (fOp dIx2 (fVar 6) (fC (.int 0))) (fCons (fC (.str "A")) (fCons (fC .non) (fNil))))))) (.nm 5) (b_law_l5)) <|
  sSeq (sFor (fIter (fLst (fCons (fC .non) (fCons (fTup (fNil)) (fCons (fLst (fNil)) (fCons (fCB dTuple (fCons (fVar 6) (fNil))) (fCons (fOp dAdd (fVar 6) (fLst (fCons (fC (.str "gone")) (fNil)))) (fNil)))))))) (.nm 5) (b_law_l6)) <|
  sSeq (sFor (fIter (fLst (fCons (fC .non) (fCons (fC (.int 5)) (fCons (fLst (fCons (fC (.str "a")) (fNil))) (fNil)))))) (.nm 5) (b_law_l7)) <|
  sIf (fNot (fTru (fCall c_law_rows_bad (fCons (fVar 7) (fCons (fCB dSorted (fCons (fLc (fIter (fVar 6)) (.nm 4) (fYes) (fOp dAdd (fVar 4) (fC (.str " b"))) [4]) (fNil))) (fNil)))))) (sRet (fC (.bl false))) (sNil)))
def b_law : FS :=
  sSeq (sFor (fRange1 (fCons (fCB dMax (fCons (fC (.int 1)) (fCons (fCB dMin (fCons (fC (.int 4)) (fCons (fCB dLen2 (fCons (fVar 0) (fNil))) (fNil)))) (fNil)))) (fNil))) (.nm 1) (b_law_l8)) <|
  sRet (fC (.bl true))
def c_law : List D → Store → R D := callB 10 b_law
/-! ### what the text says -/
def b_law_word (c : Nat) : FS :=
  sSeq (sSet 1 (fLstM (fCons (fIsx (decide (c = 0)) (fVar 0)) (fCons (fIsx (decide (c = 1)) (fVar 0)) (fCons (fIsx (decide (c = 2)) (fVar 0)) (fCons (fIsx (decide (c = 3)) (fVar 0)) (fNil))))))) <|
  sSeq (sSet 1 (fOp dAddM (fVar 1) (fLst (fCons (fIsx (decide (c = 4)) (fVar 0)) (fCons (fIsx (decide (c = 5)) (fVar 0)) (fCons (fIsx (decide (c = 6)) (fVar 0)) (fCons (fIsx (decide (c = 7)) (fVar 0)) (fNil)))))))) <|
  sSeq (sSet 1 (fOp dAddM (fVar 1) (fLst (fCons (fIsx (decide (c = 8)) (fVar 0)) (fCons (fIsx (decide (c = 9)) (fVar 0)) (fNil)))))) <|
  sSeq (sIf (fOr (fTru (fOp dNe (fCB dSum (fCons (fIntsH (fVar 1)) (fNil))) (fC (.int 1)))) (fNot (fTru (fIsx true (fVar 0))))) (sRet (fC (.str "other"))) (sNil)) <|
  sSeq (sSet 2 (fLstM (fCons (fC (.str "BadTemplate")) (fCons (fC (.str "BadText")) (fCons (fC (.str "BadNumber")) (fCons (fC (.str "BadPlace")) (fCons (fC (.str "NoHole")) (fCons (fC (.str "NoChoice")) (fCons (fC (.str "TooLong")) (fCons (fC (.str "Over")) (fCons (fC (.str "Nothing")) (fNil)))))))))))) <|
  sRet (fOp dIx (fOp dAdd (fVar 2) (fLst (fCons (fC (.str "BadName")) (fNil)))) (fM .lst dIndexL (fVar 1) (fCons (fC (.bl true)) (fNil))))
structure Tx (g : G) (mg : Str → Option Value) (cs : List (Addr × Addr)) : Prop where
  d_law_drawn : Df g.K mg "_law_drawn" (top 76) ["_law_cell_here", "_law_k"]
  d_law_cell : Df g.K mg "_law_cell" (top 75) ["_law_script", "_law_k"]
  d_Shelf_init : Dm g.K (g.ca 21) "__init__" "Shelf.__init__" (inClass (top 73) 0) ["self"]
  d_is_name : Df g.K mg "is_name" (top 72) ["thing"]
  d_is_text : Df g.K mg "is_text" (top 25) ["thing", "low", "high"]
  d_is_count : Df g.K mg "is_count" (top 24) ["thing", "low", "high"]
  d_are_options : Df g.K mg "are_options" (top 26) ["thing"]
  d_are_parts : Df g.K mg "are_parts" (top 28) ["thing", "deep"]
  d_is_part : Df g.K mg "is_part" (top 27) ["thing", "deep"]
  d_all_parts : Df g.K mg "all_parts" (top 29) ["parts"]
  d_homes_in : Df g.K mg "homes_in" (top 30) ["parts"]
  d_goes_round : Df g.K mg "goes_round" (top 32) ["leads"]
  d_leads_of : Df g.K mg "leads_of" (top 31) ["parts"]
  d_is_template : Df g.K mg "is_template" (top 33) ["thing"]
  d_need_template : Df g.K mg "need_template" (top 34) ["template"]
  d_Shelf_become : Dm g.K (g.ca 21) "become" "Shelf.become" (inClass (top 73) 1) ["self", "kept"]
  d_Shelf_keep : Dm g.K (g.ca 21) "keep" "Shelf.keep" (inClass (top 73) 3) ["self", "name", "template"]
  d_Shelf_need_there : Dm g.K (g.ca 21) "need_there" "Shelf.need_there" (inClass (top 73) 2) ["self", "name"]
  d_Shelf_forget : Dm g.K (g.ca 21) "forget" "Shelf.forget" (inClass (top 73) 4) ["self", "name"]
  d_Shelf_call : Dm g.K (g.ca 21) "call" "Shelf.call" (inClass (top 73) 5) ["self", "name", "other"]
  d_Shelf_template : Dm g.K (g.ca 21) "template" "Shelf.template" (inClass (top 73) 9) ["self", "name"]
  d_Shelf_walk : Dm g.K (g.ca 21) "walk" "Shelf.walk" (inClass (top 73) 12) ["self", "name"]
  d_Shelf_row_of : Dm g.K (g.ca 21) "row_of" "Shelf.row_of" (inClass (top 73) 11) ["self", "names"]
  d_Shelf_undo : Dm g.K (g.ca 21) "undo" "Shelf.undo" (inClass (top 73) 6) ["self"]
  d_Shelf_names : Dm g.K (g.ca 21) "names" "Shelf.names" (inClass (top 73) 8) ["self"]
  d_Shelf_starts : Dm g.K (g.ca 21) "starts" "Shelf.starts" (inClass (top 73) 10) ["self", "signs"]
  d_parts_from : Df g.K mg "parts_from" (top 41) ["text", "at", "deep"]
  d_hole_from : Df g.K mg "hole_from" (top 42) ["text", "at", "deep"]
  d_part_text : Df g.K mg "part_text" (top 39) ["part"]
  d_written : Df g.K mg "written" (top 40) ["template"]
  d_read : Df g.K mg "read" (top 43) ["text"]
  d_Shelf_load : Dm g.K (g.ca 21) "load" "Shelf.load" (inClass (top 73) 14) ["self", "rows"]
  d_Shelf_rows : Dm g.K (g.ca 21) "rows" "Shelf.rows" (inClass (top 73) 13) ["self"]
  d_law_rows_bad : DfL g.K mg "_law_rows_bad" (top 79) ["_law_shelf", "_law_rows"] (cs.getD 0 (0, 0)).1
  d_law : DfL g.K mg "law" (top 80) ["_law_script"] (cs.getD 1 (0, 0)).1
  d_law_word : Df g.K mg "_law_word" (top 77) ["_law_e"]
  d_law_told : Df g.K mg "_law_told" (top 78) ["_law_deed"]
  k_MOST_NAME : Kst g mg "MOST_NAME" (.int 8)
  k_SMALL_shelves : Kst g mg "SMALL_shelves" (.str "abcdefghijklmnopqrstuvwxyz")
  k_SMALL_templates : Kst g mg "SMALL_templates" (.str "abcdefghijklmnopqrstuvwxyz")
  k_GREAT : Kst g mg "GREAT" (.str "ABCDEFGHIJKLMNOPQRSTUVWXYZ")
  k_FIGURES : Kst g mg "FIGURES" (.str "0123456789")
  k_OTHERS : Kst g mg "OTHERS" (.str " _-.,;()=+*")
  k_MOST_OPTIONS : Kst g mg "MOST_OPTIONS" (.int 4)
  k_MOST_TEXT : Kst g mg "MOST_TEXT" (.int 12)
  k_MOST_HOLE : Kst g mg "MOST_HOLE" (.int 9)
  k_TURNS : Kst g mg "TURNS" (.tup ((["same", "up", "low", "head", "words"] : List Str).map D.str))
  k_MOST_DEEP : Kst g mg "MOST_DEEP" (.int 3)
  k_MOST_PARTS : Kst g mg "MOST_PARTS" (.int 12)
  k_MOST_NAMES : Kst g mg "MOST_NAMES" (.int 12)
  f_len : mg "len" = none
  f_isinstance : mg "isinstance" = none
  f_str : mg "str" = none
  f_all : mg "all" = none
  f_int : mg "int" = none
  f_bool : mg "bool" = none
  f_tuple : mg "tuple" = none
  f_set : mg "set" = none
  f_zip : mg "zip" = none
  f_any : mg "any" = none
  f_list : mg "list" = none
  f_dict : mg "dict" = none
  f_sorted : mg "sorted" = none
  f_range : mg "range" = none
  f_min : mg "min" = none
  f_max : mg "max" = none
  f_sum : mg "sum" = none
  f_ValueError : mg "ValueError" = none
  x_BadTemplate : ExcK g.K mg "BadTemplate" (g.ca 0)
  x_BadName : ExcK g.K mg "BadName" (g.ca 9)
  x_Nothing : ExcK g.K mg "Nothing" (g.ca 8)
  x_BadText : ExcK g.K mg "BadText" (g.ca 1)
  cs_Shelf : Cs g mg 21 "Shelf" ["kept", "past", "ahead"]
  m_BadTemplate : mg "BadTemplate" = some (.ref (g.ca 0))
  m_BadText : mg "BadText" = some (.ref (g.ca 1))
  m_BadNumber : mg "BadNumber" = some (.ref (g.ca 2))
  m_BadPlace : mg "BadPlace" = some (.ref (g.ca 3))
  m_NoHole : mg "NoHole" = some (.ref (g.ca 4))
  m_NoChoice : mg "NoChoice" = some (.ref (g.ca 5))
  m_TooLong : mg "TooLong" = some (.ref (g.ca 6))
  m_Over : mg "Over" = some (.ref (g.ca 7))
  m_Nothing : mg "Nothing" = some (.ref (g.ca 8))
  m_BadName : mg "BadName" = some (.ref (g.ca 9))
  xc : ∀ c, c < 10 → ExcC g.K (g.ca c)
  kit : ∀ c k, c < 10 → k < 10 → PySem.W.kitOne g.K (.ref (g.ca c)) (.ref (g.ca k)) = some (decide (c = k))
  kv : ∀ c, c < 10 → PySem.W.kitOne g.K (.ref (g.ca c)) (.type "ValueError") = some true
  hole : ∃ ho, mg "HoleError" = some (.ref ho) ∧ ∀ c, c < 10 → PySem.W.exmOne g.K (.ref (g.ca c)) (.ref ho) = some true
  cm_law_rows_bad : cs.getD 0 (0, 0) ∈ cs
  tm_law_rows_bad : ((cs.getD 0 (0, 0)).2, (envOfC "_law_rows_bad" (defScope (top 79)) 0 0 .none).qual ++ "<lambda>") ∈ g.T
  tu_law_rows_bad : ∀ p ∈ g.T, p.1 = (cs.getD 0 (0, 0)).2 → p.2 = (envOfC "_law_rows_bad" (defScope (top 79)) 0 0 .none).qual ++ "<lambda>"
  cm_law : cs.getD 1 (0, 0) ∈ cs
  tm_law : ((cs.getD 1 (0, 0)).2, (envOfC "law" (defScope (top 80)) 0 0 .none).qual ++ "<lambda>") ∈ g.T
  tu_law : ∀ p ∈ g.T, p.1 = (cs.getD 1 (0, 0)).2 → p.2 = (envOfC "law" (defScope (top 80)) 0 0 .none).qual ++ "<lambda>"
theorem sc_law_drawn : FnScope ["_law_cell_here", "_law_k", "_law_more"] ["_law_cell_here", "_law_k"] (defScope (top 76)) := ⟨rfl, rfl, rfl, by decide +kernel, rfl, by decide +kernel, by decide +kernel⟩
theorem sc_law_cell : FnScope ["_law_script", "_law_k"] ["_law_script", "_law_k"] (defScope (top 75)) := ⟨rfl, rfl, rfl, by decide +kernel, rfl, by decide +kernel, by decide +kernel⟩
theorem sc_Shelf_init : FnScope ["self"] ["self"] (defScope (inClass (top 73) 0)) := ⟨rfl, rfl, rfl, by decide +kernel, rfl, by decide +kernel, by decide +kernel⟩
theorem sc_is_name : FnScope ["thing", "sign"] ["thing"] (defScope (top 72)) := ⟨rfl, rfl, rfl, by decide +kernel, rfl, by decide +kernel, by decide +kernel⟩
theorem sc_is_text : FnScope ["thing", "low", "high", "sign"] ["thing", "low", "high"] (defScope (top 25)) := ⟨rfl, rfl, rfl, by decide +kernel, rfl, by decide +kernel, by decide +kernel⟩
theorem sc_is_count : FnScope ["thing", "low", "high"] ["thing", "low", "high"] (defScope (top 24)) := ⟨rfl, rfl, rfl, by decide +kernel, rfl, by decide +kernel, by decide +kernel⟩
theorem sc_are_options : FnScope ["thing", "one"] ["thing"] (defScope (top 26)) := ⟨rfl, rfl, rfl, by decide +kernel, rfl, by decide +kernel, by decide +kernel⟩
theorem sc_are_parts : FnScope ["thing", "deep", "part", "one", "other"] ["thing", "deep"] (defScope (top 28)) := ⟨rfl, rfl, rfl, by decide +kernel, rfl, by decide +kernel, by decide +kernel⟩
theorem sc_is_part : FnScope ["thing", "deep"] ["thing", "deep"] (defScope (top 27)) := ⟨rfl, rfl, rfl, by decide +kernel, rfl, by decide +kernel, by decide +kernel⟩
theorem sc_all_parts : FnScope ["parts", "found", "part"] ["parts"] (defScope (top 29)) := ⟨rfl, rfl, rfl, by decide +kernel, rfl, by decide +kernel, by decide +kernel⟩
theorem sc_homes_in : FnScope ["parts", "part"] ["parts"] (defScope (top 30)) := ⟨rfl, rfl, rfl, by decide +kernel, rfl, by decide +kernel, by decide +kernel⟩
theorem sc_goes_round : FnScope ["leads", "number", "seen", "rim", "goal"] ["leads"] (defScope (top 32)) := ⟨rfl, rfl, rfl, by decide +kernel, rfl, by decide +kernel, by decide +kernel⟩
theorem sc_leads_of : FnScope ["parts", "found", "part", "own"] ["parts"] (defScope (top 31)) := ⟨rfl, rfl, rfl, by decide +kernel, rfl, by decide +kernel, by decide +kernel⟩
theorem sc_is_template : FnScope ["thing", "homes", "own"] ["thing"] (defScope (top 33)) := ⟨rfl, rfl, rfl, by decide +kernel, rfl, by decide +kernel, by decide +kernel⟩
theorem sc_need_template : FnScope ["template"] ["template"] (defScope (top 34)) := ⟨rfl, rfl, rfl, by decide +kernel, rfl, by decide +kernel, by decide +kernel⟩
theorem sc_Shelf_become : FnScope ["self", "kept"] ["self", "kept"] (defScope (inClass (top 73) 1)) := ⟨rfl, rfl, rfl, by decide +kernel, rfl, by decide +kernel, by decide +kernel⟩
theorem sc_Shelf_keep : FnScope ["self", "name", "template", "later"] ["self", "name", "template"] (defScope (inClass (top 73) 3)) := ⟨rfl, rfl, rfl, by decide +kernel, rfl, by decide +kernel, by decide +kernel⟩
theorem sc_Shelf_need_there : FnScope ["self", "name"] ["self", "name"] (defScope (inClass (top 73) 2)) := ⟨rfl, rfl, rfl, by decide +kernel, rfl, by decide +kernel, by decide +kernel⟩
theorem sc_Shelf_forget : FnScope ["self", "name", "own"] ["self", "name"] (defScope (inClass (top 73) 4)) := ⟨rfl, rfl, rfl, by decide +kernel, rfl, by decide +kernel, by decide +kernel⟩
theorem sc_Shelf_call : FnScope ["self", "name", "other", "later", "own"] ["self", "name", "other"] (defScope (inClass (top 73) 5)) := ⟨rfl, rfl, rfl, by decide +kernel, rfl, by decide +kernel, by decide +kernel⟩
theorem sc_Shelf_template : FnScope ["self", "name"] ["self", "name"] (defScope (inClass (top 73) 9)) := ⟨rfl, rfl, rfl, by decide +kernel, rfl, by decide +kernel, by decide +kernel⟩
theorem sc_Shelf_walk : FnScope ["self", "name"] ["self", "name"] (defScope (inClass (top 73) 12)) := ⟨rfl, rfl, rfl, by decide +kernel, rfl, by decide +kernel, by decide +kernel⟩
theorem sc_Shelf_row_of : FnScope ["self", "names", "name", "found"] ["self", "names"] (defScope (inClass (top 73) 11)) := ⟨rfl, rfl, rfl, by decide +kernel, rfl, by decide +kernel, by decide +kernel⟩
theorem sc_Shelf_undo : FnScope ["self"] ["self"] (defScope (inClass (top 73) 6)) := ⟨rfl, rfl, rfl, by decide +kernel, rfl, by decide +kernel, by decide +kernel⟩
theorem sc_Shelf_names : FnScope ["self"] ["self"] (defScope (inClass (top 73) 8)) := ⟨rfl, rfl, rfl, by decide +kernel, rfl, by decide +kernel, by decide +kernel⟩
theorem sc_Shelf_starts : FnScope ["self", "signs", "name"] ["self", "signs"] (defScope (inClass (top 73) 10)) := ⟨rfl, rfl, rfl, by decide +kernel, rfl, by decide +kernel, by decide +kernel⟩
theorem sc_parts_from : FnScope ["text", "at", "deep", "found", "part", "end"] ["text", "at", "deep"] (defScope (top 41)) := ⟨rfl, rfl, rfl, by decide +kernel, rfl, by decide +kernel, by decide +kernel⟩
theorem sc_hole_from : FnScope ["text", "at", "deep", "number", "word", "content", "end", "inner"] ["text", "at", "deep"] (defScope (top 42)) := ⟨rfl, rfl, rfl, by decide +kernel, rfl, by decide +kernel, by decide +kernel⟩
theorem sc_part_text : FnScope ["part", "head", "one"] ["part"] (defScope (top 39)) := ⟨rfl, rfl, rfl, by decide +kernel, rfl, by decide +kernel, by decide +kernel⟩
theorem sc_written : FnScope ["template", "part"] ["template"] (defScope (top 40)) := ⟨rfl, rfl, rfl, by decide +kernel, rfl, by decide +kernel, by decide +kernel⟩
theorem sc_read : FnScope ["text", "found", "end"] ["text"] (defScope (top 43)) := ⟨rfl, rfl, rfl, by decide +kernel, rfl, by decide +kernel, by decide +kernel⟩
theorem sc_Shelf_load : FnScope ["self", "rows", "row", "later", "name", "gap", "text"] ["self", "rows"] (defScope (inClass (top 73) 14)) := ⟨rfl, rfl, rfl, by decide +kernel, rfl, by decide +kernel, by decide +kernel⟩
theorem sc_Shelf_rows : FnScope ["self", "name"] ["self"] (defScope (inClass (top 73) 13)) := ⟨rfl, rfl, rfl, by decide +kernel, rfl, by decide +kernel, by decide +kernel⟩
theorem sc_law_rows_bad : FnScope ["_law_shelf", "_law_rows", "_law_bad"] ["_law_shelf", "_law_rows"] (defScope (top 79)) := ⟨rfl, rfl, rfl, by decide +kernel, rfl, by decide +kernel, by decide +kernel⟩
theorem sc_law : FnScope ["_law_script", "_law_k", "_law_more", "_law_found", "_law_name", "_law_bad", "_law_names", "_law_shelf", "_law_template", "_law_j"] ["_law_script"] (defScope (top 80)) := ⟨rfl, rfl, rfl, by decide +kernel, rfl, by decide +kernel, by decide +kernel⟩
theorem sc_law_word : FnScope ["_law_e", "_law_flags", "_law_words_here", "_law_flag"] ["_law_e"] (defScope (top 77)) := ⟨rfl, rfl, rfl, by decide +kernel, rfl, by decide +kernel, by decide +kernel⟩
theorem sc_law_told : FnScope ["_law_deed", "_law_e"] ["_law_deed"] (defScope (top 78)) := ⟨rfl, rfl, rfl, by decide +kernel, rfl, by decide +kernel, by decide +kernel⟩
section
variable {g : G} {P : Program} {w : World} {mg : Str → Option Value} {base : Heap} {cs : List (Addr × Addr)}
theorem sb_law_word (T : Tx g mg cs) {k : Nat} {c : Nat} (hc : c < 10) {p : Addr × Obj} (hz : L2N.Zn (.ref (g.ca c)) none p.2) (hf : ∃ vs, p.2.data = .fields vs) {fa : Addr} {cdv : Value} {A : Around} {outer : List PySem.Env} {s1 : Shared} {H : Hp} (hot : L2H.Hot1 A p) (hr : L2H.RoomH k (A.deeper (envOfC "_law_word" (defScope (top 77)) s1.heap.objs.size fa cdv))) :
    SB (gX g p.1) E0 (L2H.cxH (L2N.CX P w) P w g.K mg base ["_law_e", "_law_flags", "_law_words_here", "_law_flag"] "_law_word" (defScope (top 77)) fa cdv A outer s1 H E0 p) (defBody (top 77)) (b_law_word c) := by
  have hx : L2H.HotC (L2H.cxH (L2N.CX P w) P w g.K mg base ["_law_e", "_law_flags", "_law_words_here", "_law_flag"] "_law_word" (defScope (top 77)) fa cdv A outer s1 H E0 p) := ⟨p, hot, List.mem_cons_self⟩
  exact (sb_cons (ss_set (i := 1) sc_law_word.nd rfl (.inl rfl) (se_lstM (sa_cons (se_isx (T.xc c hc) List.mem_cons_self hz.zc hf (gX_at _ _) rfl T.f_isinstance (pe_glob (v := .ref (g.ca 0)) rfl T.m_BadTemplate rfl) (fun u r => r) (T.kit c 0 hc (by decide)) (se_var (pv 0))) (sa_cons (se_isx (T.xc c hc) List.mem_cons_self hz.zc hf (gX_at _ _) rfl T.f_isinstance (pe_glob (v := .ref (g.ca 1)) rfl T.m_BadText rfl) (fun u r => r) (T.kit c 1 hc (by decide)) (se_var (pv 0))) (sa_cons (se_isx (T.xc c hc) List.mem_cons_self hz.zc hf (gX_at _ _) rfl T.f_isinstance (pe_glob (v := .ref (g.ca 2)) rfl T.m_BadNumber rfl) (fun u r => r) (T.kit c 2 hc (by decide)) (se_var (pv 0))) (sa_cons (se_isx (T.xc c hc) List.mem_cons_self hz.zc hf (gX_at _ _) rfl T.f_isinstance (pe_glob (v := .ref (g.ca 3)) rfl T.m_BadPlace rfl) (fun u r => r) (T.kit c 3 hc (by decide)) (se_var (pv 0))) sa_nil)))))) <|
  (sb_cons (ss_set (i := 1) sc_law_word.nd rfl (.inl rfl) (se_addM (se_var (pv 1)) (se_lst (sa_cons (se_isx (T.xc c hc) List.mem_cons_self hz.zc hf (gX_at _ _) rfl T.f_isinstance (pe_glob (v := .ref (g.ca 4)) rfl T.m_NoHole rfl) (fun u r => r) (T.kit c 4 hc (by decide)) (se_var (pv 0))) (sa_cons (se_isx (T.xc c hc) List.mem_cons_self hz.zc hf (gX_at _ _) rfl T.f_isinstance (pe_glob (v := .ref (g.ca 5)) rfl T.m_NoChoice rfl) (fun u r => r) (T.kit c 5 hc (by decide)) (se_var (pv 0))) (sa_cons (se_isx (T.xc c hc) List.mem_cons_self hz.zc hf (gX_at _ _) rfl T.f_isinstance (pe_glob (v := .ref (g.ca 6)) rfl T.m_TooLong rfl) (fun u r => r) (T.kit c 6 hc (by decide)) (se_var (pv 0))) (sa_cons (se_isx (T.xc c hc) List.mem_cons_self hz.zc hf (gX_at _ _) rfl T.f_isinstance (pe_glob (v := .ref (g.ca 7)) rfl T.m_Over rfl) (fun u r => r) (T.kit c 7 hc (by decide)) (se_var (pv 0))) sa_nil))))))) <|
  (sb_cons (ss_set (i := 1) sc_law_word.nd rfl (.inl rfl) (se_addM (se_var (pv 1)) (se_lst (sa_cons (se_isx (T.xc c hc) List.mem_cons_self hz.zc hf (gX_at _ _) rfl T.f_isinstance (pe_glob (v := .ref (g.ca 8)) rfl T.m_Nothing rfl) (fun u r => r) (T.kit c 8 hc (by decide)) (se_var (pv 0))) (sa_cons (se_isx (T.xc c hc) List.mem_cons_self hz.zc hf (gX_at _ _) rfl T.f_isinstance (pe_glob (v := .ref (g.ca 9)) rfl T.m_BadName rfl) (fun u r => r) (T.kit c 9 hc (by decide)) (se_var (pv 0))) sa_nil))))) <|
  (sb_cons (ss_if (SW.st (sw_or (st_ne (huH hr) (sf_sumH hx rfl T.f_sum (sa_cons (se_intsH hx (se_var (pv 1)) T.f_int rfl rfl (of_decide_eq_true (by kernel_rfl)) (of_decide_eq_true (by kernel_rfl)) rfl) sa_nil)) (se_c pe_int fun _ _ => rfl)) (sw_or1 (st_not (st_val (se_isx (T.xc c hc) List.mem_cons_self hz.zc hf (gX_at _ _) rfl T.f_isinstance (pe_bltn (v := .ty "ValueError") rfl T.f_ValueError bb_ValueError rfl) (fun u r => r) (T.kv c hc) (se_var (pv 0)))))))) (sb_one (ss_ret (se_c pe_str fun _ _ => rfl))) sb_nil) <|
  (sb_cons (ss_set (i := 2) sc_law_word.nd rfl (.inl rfl) (se_lstM (sa_cons (se_c pe_str fun _ _ => rfl) (sa_cons (se_c pe_str fun _ _ => rfl) (sa_cons (se_c pe_str fun _ _ => rfl) (sa_cons (se_c pe_str fun _ _ => rfl) (sa_cons (se_c pe_str fun _ _ => rfl) (sa_cons (se_c pe_str fun _ _ => rfl) (sa_cons (se_c pe_str fun _ _ => rfl) (sa_cons (se_c pe_str fun _ _ => rfl) (sa_cons (se_c pe_str fun _ _ => rfl) sa_nil))))))))))) <|
  (sb_one (ss_ret (se_item (se_add (se_var (pv 2)) (se_lst (sa_cons (se_c pe_str fun _ _ => rfl) sa_nil))) (sm1_index_l (se_var (pv 1)) (sa_cons (se_c pe_bl fun _ _ => rfl) sa_nil))))))))))
theorem word_val : ∀ c, c < 10 → ∃ st, b_law_word c (startD 4 [.fn 999]) [] = .rt (.str (wd c)) st
  | 0, _ => ⟨_, rfl⟩
  | 1, _ => ⟨_, rfl⟩
  | 2, _ => ⟨_, rfl⟩
  | 3, _ => ⟨_, rfl⟩
  | 4, _ => ⟨_, rfl⟩
  | 5, _ => ⟨_, rfl⟩
  | 6, _ => ⟨_, rfl⟩
  | 7, _ => ⟨_, rfl⟩
  | 8, _ => ⟨_, rfl⟩
  | 9, _ => ⟨_, rfl⟩
  | n + 10, h => absurd h (by omega)
theorem told_ok (T : Tx g mg cs) (k : Nat) : ∃ ga fd, Told g P w mg base (k + 1) 10 wd "_law_told" ga fd "_law_deed" := by
  obtain ⟨ga, fd, F, m, b⟩ := T.d_law_told.ex
  obtain ⟨oc, od, kV, doc, pm, an, cdv, ct, osl, e, lk, hcd⟩ := F.ex
  obtain ⟨wa, wfd, WF, wm, wb⟩ := T.d_law_word.ex
  obtain ⟨ho, hm, hx⟩ := T.hole
  refine ⟨ga, fd, ⟨⟨_, _, _, _, _, _, _, _, _, _, _, _, _, ho, wa, wfd, "HoleError", "_law_word", "_law_e", _, _, _, _, _, _, _, _, _, _, _, e, lk, hcd, rfl, sc_law_told, .inl rfl, rfl, rfl, by decide, hm, hx, rfl, by decide, wm, WF.kp, .all wb, fun c p hc hz hf => ?_⟩, .all b, F.kp, m, by decide, by decide, by decide⟩⟩
  obtain ⟨st, hv⟩ := word_val c hc
  exact fnX_ok WF sc_law_word rfl (fun cdv A outer s1 H hot hr => sb_law_word T hc hz hf hot hr) hv
theorem sb_law_drawn (T : Tx g mg cs) {fa : Addr} {cdv : Value} {A : Around} {outer : List PySem.Env} {s1 : Shared} {H : Hp} {E : XK} (hr : Room 0 (A.deeper (envOfC "_law_drawn" (defScope (top 76)) s1.heap.objs.size fa cdv))) :
    SB g E (cxOf (L2N.CX P w) P w g.K mg base ["_law_cell_here", "_law_k", "_law_more"] "_law_drawn" (defScope (top 76)) fa cdv A outer s1 H E) (defBody (top 76)) (b_law_drawn) := by
  exact (sb_cons (ss_set (i := 2) sc_law_drawn.nd rfl (.inl rfl) (se_mod (se_add (se_mul2 (se_var (pv 0)) (se_c pe_int fun _ _ => rfl)) (se_mul2 (se_add (se_var (pv 1)) (se_c pe_int fun _ _ => rfl)) (se_c pe_int fun _ _ => rfl))) (se_c pe_int fun _ _ => rfl))) <|
  (sb_cons (ss_set (i := 2) sc_law_drawn.nd rfl (.inl rfl) (se_mod (se_mul2 (se_var (pv 2)) (se_var (pv 2))) (se_c pe_int fun _ _ => rfl))) <|
  (sb_cons (ss_set (i := 2) sc_law_drawn.nd rfl (.inl rfl) (se_mul2 (se_mul2 (se_add (se_mod (se_var (pv 2)) (se_c pe_int fun _ _ => rfl)) (se_c pe_int fun _ _ => rfl)) (se_add (se_div (se_var (pv 2)) (se_c pe_int fun _ _ => rfl)) (se_c pe_int fun _ _ => rfl))) (se_var (pv 2)))) <|
  (sb_one (ss_ret (se_mod (se_var (pv 2)) (se_c pe_int fun _ _ => rfl)))))))
theorem ca_law_drawn (T : Tx g mg cs) : Ca g P w mg base 1 "_law_drawn" 2 c_law_drawn :=
  ca_of T.d_law_drawn sc_law_drawn fun fa cdv A outer s1 H E hr => sb_law_drawn T   hr
theorem sb_law_cell (T : Tx g mg cs) {fa : Addr} {cdv : Value} {A : Around} {outer : List PySem.Env} {s1 : Shared} {H : Hp} {E : XK} (hr : Room 0 (A.deeper (envOfC "_law_cell" (defScope (top 75)) s1.heap.objs.size fa cdv))) :
    SB g E (cxOf (L2N.CX P w) P w g.K mg base ["_law_script", "_law_k"] "_law_cell" (defScope (top 75)) fa cdv A outer s1 H E) (defBody (top 75)) (b_law_cell) := by
  exact (sb_cons (ss_if (st_eq (Nat.lt_of_succ_lt (hu65 hr)) (se_var (pv 0)) (se_lst sa_nil)) (sb_one (ss_ret (se_mul2 (se_var (pv 1)) (se_c pe_int fun _ _ => rfl)))) sb_nil) <|
  (sb_one (ss_ret (se_add (se_item2 (hu65 hr) (se_var (pv 0)) (se_mod (se_var (pv 1)) (sf_len2 rfl T.f_len (sa_cons (se_var (pv 0)) sa_nil)))) (se_mul2 (se_div (se_var (pv 1)) (sf_len2 rfl T.f_len (sa_cons (se_var (pv 0)) sa_nil))) (se_c pe_int fun _ _ => rfl))))))
theorem ca_law_cell (T : Tx g mg cs) : Ca g P w mg base 1 "_law_cell" 2 c_law_cell :=
  ca_of T.d_law_cell sc_law_cell fun fa cdv A outer s1 H E hr => sb_law_cell T   hr
theorem sb_Shelf_init (T : Tx g mg cs) {fa : Addr} {cdv : Value} {A : Around} {outer : List PySem.Env} {s1 : Shared} {H : Hp} {E : XK} (hr : Room 0 (A.deeper (envOfC "Shelf.__init__" (defScope (inClass (top 73) 0)) s1.heap.objs.size fa cdv))) :
    SB g E (cxOf (L2N.CX P w) P w g.K mg base ["self"] "Shelf.__init__" (defScope (inClass (top 73) 0)) fa cdv A outer s1 H E) (defBody (inClass (top 73) 0)) (b_Shelf_init) := by
  exact (sb_cons (ss_fld T.cs_Shelf (by decide) (se_var (pv 0)) se_dnew) <|
  (sb_cons (ss_fld T.cs_Shelf (by decide) (se_var (pv 0)) (se_lstM sa_nil)) <|
  (sb_one (ss_fld T.cs_Shelf (by decide) (se_var (pv 0)) (se_lstM sa_nil)))))
theorem ca_Shelf_init (T : Tx g mg cs) : Cm g P w mg base 1 21 "__init__" 1 c_Shelf_init :=
  cm_of T.d_Shelf_init sc_Shelf_init fun fa cdv A outer s1 H E hr => sb_Shelf_init T   hr
theorem sb_is_name (T : Tx g mg cs) {fa : Addr} {cdv : Value} {A : Around} {outer : List PySem.Env} {s1 : Shared} {H : Hp} {E : XK} (hr : Room 0 (A.deeper (envOfC "is_name" (defScope (top 72)) s1.heap.objs.size fa cdv))) :
    SB g E (cxOf (L2N.CX P w) P w g.K mg base ["thing", "sign"] "is_name" (defScope (top 72)) fa cdv A outer s1 H E) (defBody (top 72)) (b_is_name) := by
  exact (sb_one (ss_ret (se_and (sf_is_str (se_var (pv 0)) rfl T.f_isinstance rfl T.f_str) (se_and (se_chainLeLe (Nat.lt_of_succ_lt (hu65 hr)) (se_c pe_int fun _ _ => rfl) (sf_len2 rfl T.f_len (sa_cons (se_var (pv 0)) sa_nil)) (se_k T.k_MOST_NAME rfl)) (se_one (sf_all rfl rfl T.f_all (sa_cons (se_lc rfl sc_is_name.nd (si_iter (se_var (pv 0))) (own := [("sign", 1)]) ⟨rfl, of_decide_eq_true (by kernel_rfl), of_decide_eq_true (by kernel_rfl), of_decide_eq_true (by kernel_rfl), of_decide_eq_true (by kernel_rfl)⟩ (fun _ _ _ _ _ => (sg_name (i := 1) sc_is_name.nd rfl (.inl rfl))) (fun _ _ _ _ _ => (se_in2 (hu65 hr) (se_var (pv 1)) (se_k T.k_SMALL_shelves rfl))) (by decide)) sa_nil)))))))
theorem ca_is_name (T : Tx g mg cs) : Ca g P w mg base 1 "is_name" 1 c_is_name :=
  ca_of T.d_is_name sc_is_name fun fa cdv A outer s1 H E hr => sb_is_name T   hr
theorem sb_is_text (T : Tx g mg cs) {fa : Addr} {cdv : Value} {A : Around} {outer : List PySem.Env} {s1 : Shared} {H : Hp} {E : XK} (hr : Room 0 (A.deeper (envOfC "is_text" (defScope (top 25)) s1.heap.objs.size fa cdv))) :
    SB g E (cxOf (L2N.CX P w) P w g.K mg base ["thing", "low", "high", "sign"] "is_text" (defScope (top 25)) fa cdv A outer s1 H E) (defBody (top 25)) (b_is_text) := by
  exact (sb_cons (ss_if (SW.st (sw_or (st_not (st_val (sf_is_str (se_var (pv 0)) rfl T.f_isinstance rfl T.f_str))) (sw_or1 (st_not (st_chainLeLe (Nat.lt_of_succ_lt (hu65 hr)) (se_var (pv 1)) (sf_len2 rfl T.f_len (sa_cons (se_var (pv 0)) sa_nil)) (se_var (pv 2))))))) (sb_one (ss_ret (se_c pe_bl fun _ _ => rfl))) sb_nil) <|
  (sb_one (ss_ret (sf_all rfl rfl T.f_all (sa_cons (se_lc rfl sc_is_text.nd (si_iter (se_var (pv 0))) (own := [("sign", 3)]) ⟨rfl, of_decide_eq_true (by kernel_rfl), of_decide_eq_true (by kernel_rfl), of_decide_eq_true (by kernel_rfl), of_decide_eq_true (by kernel_rfl)⟩ (fun _ _ _ _ _ => (sg_name (i := 3) sc_is_text.nd rfl (.inl rfl))) (fun _ _ _ _ _ => (se_in2 (hu65 hr) (se_var (pv 3)) (se_add (se_add (se_add (se_k T.k_SMALL_templates rfl) (se_k T.k_GREAT rfl)) (se_k T.k_FIGURES rfl)) (se_k T.k_OTHERS rfl)))) (by decide)) sa_nil)))))
theorem ca_is_text (T : Tx g mg cs) : Ca g P w mg base 1 "is_text" 3 c_is_text :=
  ca_of T.d_is_text sc_is_text fun fa cdv A outer s1 H E hr => sb_is_text T   hr
theorem sb_is_count (T : Tx g mg cs) {fa : Addr} {cdv : Value} {A : Around} {outer : List PySem.Env} {s1 : Shared} {H : Hp} {E : XK} (hr : Room 0 (A.deeper (envOfC "is_count" (defScope (top 24)) s1.heap.objs.size fa cdv))) :
    SB g E (cxOf (L2N.CX P w) P w g.K mg base ["thing", "low", "high"] "is_count" (defScope (top 24)) fa cdv A outer s1 H E) (defBody (top 24)) (b_is_count) := by
  exact (sb_one (ss_ret (se_and (sf_is_int (se_var (pv 0)) rfl T.f_isinstance rfl T.f_int) (se_and (se_not (sf_is_bool (se_var (pv 0)) rfl T.f_isinstance rfl T.f_bool)) (se_one (se_chainLeLe (Nat.lt_of_succ_lt (hu65 hr)) (se_var (pv 1)) (se_var (pv 0)) (se_var (pv 2))))))))
theorem ca_is_count (T : Tx g mg cs) : Ca g P w mg base 1 "is_count" 3 c_is_count :=
  ca_of T.d_is_count sc_is_count fun fa cdv A outer s1 H E hr => sb_is_count T   hr
theorem sb_are_options (T : Tx g mg cs) (C_is_text : Ca g P w mg base 1 "is_text" 3 c_is_text) {fa : Addr} {cdv : Value} {A : Around} {outer : List PySem.Env} {s1 : Shared} {H : Hp} {E : XK} (hr : Room 1 (A.deeper (envOfC "are_options" (defScope (top 26)) s1.heap.objs.size fa cdv))) :
    SB g E (cxOf (L2N.CX P w) P w g.K mg base ["thing", "one"] "are_options" (defScope (top 26)) fa cdv A outer s1 H E) (defBody (top 26)) (b_are_options) := by
  exact (sb_cons (ss_if (SW.st (sw_or (st_not (st_val (sf_is_tuple (se_var (pv 0)) rfl T.f_isinstance rfl T.f_tuple))) (sw_or1 (st_not (st_chainLeLe (Nat.lt_of_succ_lt (hu65 hr)) (se_c pe_int fun _ _ => rfl) (sf_len2 rfl T.f_len (sa_cons (se_var (pv 0)) sa_nil)) (se_k T.k_MOST_OPTIONS rfl)))))) (sb_one (ss_ret (se_c pe_bl fun _ _ => rfl))) sb_nil) <|
  (sb_one (ss_ret (se_and (sf_all rfl rfl T.f_all (sa_cons (se_lc rfl sc_are_options.nd (si_iter (se_var (pv 0))) (own := [("one", 1)]) ⟨rfl, of_decide_eq_true (by kernel_rfl), of_decide_eq_true (by kernel_rfl), of_decide_eq_true (by kernel_rfl), of_decide_eq_true (by kernel_rfl)⟩ (fun _ _ _ _ _ => (sg_name (i := 1) sc_are_options.nd rfl (.inl rfl))) (fun _ _ _ _ _ => (se_ca C_is_text hr (by decide) rfl (fl_cons (fl_cons (fl_cons fl_nil))) (sa_cons (se_var (pv 1)) (sa_cons (se_c pe_int fun _ _ => rfl) (sa_cons (se_k T.k_MOST_TEXT rfl) sa_nil))))) (by decide)) sa_nil)) (se_one (se_eq (Nat.lt_of_succ_lt (hu65 hr)) (se_lenSet rfl rfl T.f_len rfl T.f_set (se_var (pv 0))) (sf_len2 rfl T.f_len (sa_cons (se_var (pv 0)) sa_nil))))))))
theorem ca_are_options (T : Tx g mg cs) : Ca g P w mg base 2 "are_options" 1 c_are_options :=
  ca_of T.d_are_options sc_are_options fun fa cdv A outer s1 H E hr => sb_are_options T  (ca_is_text T) hr
theorem sb_are_parts (T : Tx g mg cs) (n : Nat) {r_is_part : List D → Store → R D} (C_is_part : Ca g P w mg base (3 + n) "is_part" 2 r_is_part) {fa : Addr} {cdv : Value} {A : Around} {outer : List PySem.Env} {s1 : Shared} {H : Hp} {E : XK} (hr : Room (3 + n) (A.deeper (envOfC "are_parts" (defScope (top 28)) s1.heap.objs.size fa cdv))) :
    SB g E (cxOf (L2N.CX P w) P w g.K mg base ["thing", "deep", "part", "one", "other"] "are_parts" (defScope (top 28)) fa cdv A outer s1 H E) (defBody (top 28)) (b_are_parts r_is_part) := by
  exact (sb_cons (ss_if (st_not (st_val (sf_is_tuple (se_var (pv 0)) rfl T.f_isinstance rfl T.f_tuple))) (sb_one (ss_ret (se_c pe_bl fun _ _ => rfl))) sb_nil) <|
  (sb_cons (ss_if (st_not (st_val (sf_all rfl rfl T.f_all (sa_cons (se_lc rfl sc_are_parts.nd (si_iter (se_var (pv 0))) (own := [("part", 2)]) ⟨rfl, of_decide_eq_true (by kernel_rfl), of_decide_eq_true (by kernel_rfl), of_decide_eq_true (by kernel_rfl), of_decide_eq_true (by kernel_rfl)⟩ (fun _ _ _ _ _ => (sg_name (i := 2) sc_are_parts.nd rfl (.inl rfl))) (fun _ _ _ _ _ => (se_ca C_is_part hr (Nat.le_refl _) rfl (fl_cons (fl_cons fl_nil)) (sa_cons (se_var (pv 2)) (sa_cons (se_var (pv 1)) sa_nil)))) (by decide)) sa_nil)))) (sb_one (ss_ret (se_c pe_bl fun _ _ => rfl))) sb_nil) <|
  (sb_one (ss_ret (se_not (sf_any rfl rfl T.f_any (sa_cons (se_lc rfl sc_are_parts.nd (si_zip (sa_cons (se_slice (se_var (pv 0)) so_none (so_some (se_neg (se_c pe_int fun _ _ => rfl)))) (sa_cons (se_slice (se_var (pv 0)) (so_some (se_c pe_int fun _ _ => rfl)) so_none) sa_nil)) rfl T.f_zip) (own := [("one", 3), ("other", 4)]) ⟨rfl, of_decide_eq_true (by kernel_rfl), of_decide_eq_true (by kernel_rfl), of_decide_eq_true (by kernel_rfl), of_decide_eq_true (by kernel_rfl)⟩ (fun _ _ _ _ _ => (sg_tup rfl (sgs_cons (i := 3) sc_are_parts.nd rfl (.inl rfl) (sgs_cons (i := 4) sc_are_parts.nd rfl (.inl rfl) sgs_nil)))) (fun _ _ _ _ _ => (se_chainEqEq (Nat.lt_of_succ_lt (hu65 hr)) (se_item2 (hu65 hr) (se_var (pv 3)) (se_c pe_int fun _ _ => rfl)) (se_c pe_str fun _ _ => rfl) (se_item2 (hu65 hr) (se_var (pv 4)) (se_c pe_int fun _ _ => rfl)))) (by decide)) sa_nil)))))))
theorem sb_is_part (T : Tx g mg cs) (n : Nat) {r_are_parts : List D → Store → R D} (C_are_parts : Ca g P w mg base (3 + n) "are_parts" 2 r_are_parts) (C_is_text : Ca g P w mg base 1 "is_text" 3 c_is_text) (C_is_count : Ca g P w mg base 1 "is_count" 3 c_is_count) (C_are_options : Ca g P w mg base 2 "are_options" 1 c_are_options) {fa : Addr} {cdv : Value} {A : Around} {outer : List PySem.Env} {s1 : Shared} {H : Hp} {E : XK} (hr : Room (3 + n) (A.deeper (envOfC "is_part" (defScope (top 27)) s1.heap.objs.size fa cdv))) :
    SB g E (cxOf (L2N.CX P w) P w g.K mg base ["thing", "deep"] "is_part" (defScope (top 27)) fa cdv A outer s1 H E) (defBody (top 27)) (b_is_part r_are_parts) := by
  exact (sb_cons (ss_if (SW.st (sw_or (st_not (st_val (sf_is_tuple (se_var (pv 0)) rfl T.f_isinstance rfl T.f_tuple))) (sw_or (st_lt (sf_len2 rfl T.f_len (sa_cons (se_var (pv 0)) sa_nil)) (se_c pe_int fun _ _ => rfl)) (sw_or1 (st_not (st_val (sf_is_str (se_item2 (hu65 hr) (se_var (pv 0)) (se_c pe_int fun _ _ => rfl)) rfl T.f_isinstance rfl T.f_str))))))) (sb_one (ss_ret (se_c pe_bl fun _ _ => rfl))) sb_nil) <|
  (sb_cons (ss_if (st_eq (Nat.lt_of_succ_lt (hu65 hr)) (se_item2 (hu65 hr) (se_var (pv 0)) (se_c pe_int fun _ _ => rfl)) (se_c pe_str fun _ _ => rfl)) (sb_one (ss_ret (se_and (se_eq (Nat.lt_of_succ_lt (hu65 hr)) (sf_len2 rfl T.f_len (sa_cons (se_var (pv 0)) sa_nil)) (se_c pe_int fun _ _ => rfl)) (se_one (se_ca C_is_text hr (Nat.le_trans (by decide : 1 ≤ 3) (Nat.le_add_right _ _)) rfl (fl_cons (fl_cons (fl_cons fl_nil))) (sa_cons (se_item2 (hu65 hr) (se_var (pv 0)) (se_c pe_int fun _ _ => rfl)) (sa_cons (se_c pe_int fun _ _ => rfl) (sa_cons (se_k T.k_MOST_TEXT rfl) sa_nil)))))))) sb_nil) <|
  (sb_cons (ss_if (SW.st (sw_or (st_ne (Nat.lt_of_succ_lt (hu65 hr)) (sf_len2 rfl T.f_len (sa_cons (se_var (pv 0)) sa_nil)) (se_c pe_int fun _ _ => rfl)) (sw_or1 (st_not (st_val (se_ca C_is_count hr (Nat.le_trans (by decide : 1 ≤ 3) (Nat.le_add_right _ _)) rfl (fl_cons (fl_cons (fl_cons fl_nil))) (sa_cons (se_item2 (hu65 hr) (se_var (pv 0)) (se_c pe_int fun _ _ => rfl)) (sa_cons (se_c pe_int fun _ _ => rfl) (sa_cons (se_k T.k_MOST_HOLE rfl) sa_nil))))))))) (sb_one (ss_ret (se_c pe_bl fun _ _ => rfl))) sb_nil) <|
  (sb_cons (ss_if (st_eq (Nat.lt_of_succ_lt (hu65 hr)) (se_item2 (hu65 hr) (se_var (pv 0)) (se_c pe_int fun _ _ => rfl)) (se_c pe_str fun _ _ => rfl)) (sb_one (ss_ret (se_and (se_gt (se_var (pv 1)) (se_c pe_int fun _ _ => rfl)) (se_and (se_ca C_are_parts hr (Nat.le_refl _) rfl (fl_cons (fl_cons fl_nil)) (sa_cons (se_item2 (hu65 hr) (se_var (pv 0)) (se_c pe_int fun _ _ => rfl)) (sa_cons (se_sub (se_var (pv 1)) (se_c pe_int fun _ _ => rfl)) sa_nil))) (se_one (se_or (se_gt (se_item2 (hu65 hr) (se_var (pv 0)) (se_c pe_int fun _ _ => rfl)) (se_c pe_int fun _ _ => rfl)) (se_one (se_eq (Nat.lt_of_succ_lt (hu65 hr)) (se_item2 (hu65 hr) (se_var (pv 0)) (se_c pe_int fun _ _ => rfl)) (se_tup sa_nil))))))))) sb_nil) <|
  (sb_cons (ss_if (st_eq (Nat.lt_of_succ_lt (hu65 hr)) (se_item2 (hu65 hr) (se_var (pv 0)) (se_c pe_int fun _ _ => rfl)) (se_c pe_int fun _ _ => rfl)) (sb_one (ss_ret (se_c pe_bl fun _ _ => rfl))) sb_nil) <|
  (sb_cons (ss_if (st_eq (Nat.lt_of_succ_lt (hu65 hr)) (se_item2 (hu65 hr) (se_var (pv 0)) (se_c pe_int fun _ _ => rfl)) (se_c pe_str fun _ _ => rfl)) (sb_one (ss_ret (se_ca C_are_options hr (Nat.le_trans (by decide : 2 ≤ 3) (Nat.le_add_right _ _)) rfl (fl_cons fl_nil) (sa_cons (se_item2 (hu65 hr) (se_var (pv 0)) (se_c pe_int fun _ _ => rfl)) sa_nil)))) sb_nil) <|
  (sb_one (ss_ret (se_and (se_eq (Nat.lt_of_succ_lt (hu65 hr)) (se_item2 (hu65 hr) (se_var (pv 0)) (se_c pe_int fun _ _ => rfl)) (se_c pe_str fun _ _ => rfl)) (se_and (sf_is_str (se_item2 (hu65 hr) (se_var (pv 0)) (se_c pe_int fun _ _ => rfl)) rfl T.f_isinstance rfl T.f_str) (se_one (se_in2 (hu65 hr) (se_item2 (hu65 hr) (se_var (pv 0)) (se_c pe_int fun _ _ => rfl)) (se_k T.k_TURNS rfl)))))))))))))
theorem cG_are_parts (T : Tx g mg cs) : ∀ n, (Ca g P w mg base (3 + n) "are_parts" 2 (cF_are_parts n)) ∧ (Ca g P w mg base (3 + n) "is_part" 2 (cF_is_part n))
  | 0 => ⟨ca_stk T.d_are_parts sc_are_parts rfl, ca_stk T.d_is_part sc_is_part rfl⟩
  | n + 1 => by
    have ih := cG_are_parts T n
    obtain ⟨h0, h1⟩ := ih
    exact ⟨ca_of T.d_are_parts sc_are_parts fun fa cdv A outer s1 H E hr => sb_are_parts T n h1  hr, ca_of T.d_is_part sc_is_part fun fa cdv A outer s1 H E hr => sb_is_part T n h0 (ca_is_text T) (ca_is_count T) (ca_are_options T) hr⟩
theorem ca_are_parts (T : Tx g mg cs) : Ca g P w mg base 19 "are_parts" 2 c_are_parts := (cG_are_parts T 16).1
theorem ca_is_part (T : Tx g mg cs) : Ca g P w mg base 19 "is_part" 2 c_is_part := (cG_are_parts T 16).2
theorem sb_all_parts (T : Tx g mg cs) (n : Nat) {r_all_parts : List D → Store → R D} (C_all_parts : Ca g P w mg base (1 + n) "all_parts" 1 r_all_parts) {fa : Addr} {cdv : Value} {A : Around} {outer : List PySem.Env} {s1 : Shared} {H : Hp} {E : XK} (hr : Room (1 + n) (A.deeper (envOfC "all_parts" (defScope (top 29)) s1.heap.objs.size fa cdv))) :
    SB g E (cxOf (L2N.CX P w) P w g.K mg base ["parts", "found", "part"] "all_parts" (defScope (top 29)) fa cdv A outer s1 H E) (defBody (top 29)) (b_all_parts r_all_parts) := by
  exact (sb_cons (ss_set (i := 1) sc_all_parts.nd rfl (.inl rfl) (se_lstM sa_nil)) <|
  (sb_cons (ss_for (passes_of rfl) rfl (si_iter (se_var (pv 0))) (sg_name (i := 2) sc_all_parts.nd rfl (.inl rfl)) (sb_wp (sb_cons (ss_drop (sm1_append (se_var (pv 1)) (sa_cons (se_var (pv 2)) sa_nil))) <|
  (sb_one (ss_if (st_eq (Nat.lt_of_succ_lt (hu65 hr)) (se_item2 (hu65 hr) (se_var (pv 2)) (se_c pe_int fun _ _ => rfl)) (se_c pe_str fun _ _ => rfl)) (sb_one (ss_drop (sm1_extend (se_var (pv 1)) (sa_cons (se_ca C_all_parts hr (Nat.le_refl _) rfl (fl_cons fl_nil) (sa_cons (se_item2 (hu65 hr) (se_var (pv 2)) (se_c pe_int fun _ _ => rfl)) sa_nil)) sa_nil)))) sb_nil))))) <|
  (sb_one (ss_ret (se_var (pv 1))))))
theorem cG_all_parts (T : Tx g mg cs) : ∀ n, (Ca g P w mg base (1 + n) "all_parts" 1 (cF_all_parts n))
  | 0 => ca_stk T.d_all_parts sc_all_parts rfl
  | n + 1 => by
    have ih := cG_all_parts T n
    have h0 := ih
    exact ca_of T.d_all_parts sc_all_parts fun fa cdv A outer s1 H E hr => sb_all_parts T n h0  hr
theorem ca_all_parts (T : Tx g mg cs) : Ca g P w mg base 17 "all_parts" 1 c_all_parts := (cG_all_parts T 16)
theorem sb_homes_in (T : Tx g mg cs) (C_all_parts : Ca g P w mg base 17 "all_parts" 1 c_all_parts) {fa : Addr} {cdv : Value} {A : Around} {outer : List PySem.Env} {s1 : Shared} {H : Hp} {E : XK} (hr : Room 17 (A.deeper (envOfC "homes_in" (defScope (top 30)) s1.heap.objs.size fa cdv))) :
    SB g E (cxOf (L2N.CX P w) P w g.K mg base ["parts", "part"] "homes_in" (defScope (top 30)) fa cdv A outer s1 H E) (defBody (top 30)) (b_homes_in) := by
  exact (sb_one (ss_ret (se_lcIf rfl sc_homes_in.nd (si_iter (se_ca C_all_parts hr (by decide) rfl (fl_cons fl_nil) (sa_cons (se_var (pv 0)) sa_nil))) (own := [("part", 1)]) ⟨rfl, of_decide_eq_true (by kernel_rfl), of_decide_eq_true (by kernel_rfl), of_decide_eq_true (by kernel_rfl), of_decide_eq_true (by kernel_rfl)⟩ (fun _ _ _ _ _ => (sg_name (i := 1) sc_homes_in.nd rfl (.inl rfl))) (fun _ _ _ _ _ => (st_in2 (hu65 hr) (se_item2 (hu65 hr) (se_var (pv 1)) (se_c pe_int fun _ _ => rfl)) (se_tup (sa_cons (se_c pe_str fun _ _ => rfl) (sa_cons (se_c pe_str fun _ _ => rfl) sa_nil))))) (fun _ _ _ _ _ => (se_item2 (hu65 hr) (se_var (pv 1)) (se_c pe_int fun _ _ => rfl))) (by decide))))
theorem ca_homes_in (T : Tx g mg cs) : Ca g P w mg base 18 "homes_in" 1 c_homes_in :=
  ca_of T.d_homes_in sc_homes_in fun fa cdv A outer s1 H E hr => sb_homes_in T  (ca_all_parts T) hr
theorem sb_goes_round (T : Tx g mg cs) {fa : Addr} {cdv : Value} {A : Around} {outer : List PySem.Env} {s1 : Shared} {H : Hp} {E : XK} (hr : Room 0 (A.deeper (envOfC "goes_round" (defScope (top 32)) s1.heap.objs.size fa cdv))) :
    SB g E (cxOf (L2N.CX P w) P w g.K mg base ["leads", "number", "seen", "rim", "goal"] "goes_round" (defScope (top 32)) fa cdv A outer s1 H E) (defBody (top 32)) (b_goes_round) := by
  exact (sb_cons (ss_forK (passes_of rfl) rfl (pv 0) (sg_name (i := 1) sc_goes_round.nd rfl (.inl rfl)) (sb_gc (by repeat' (first | refine kp_while ?_ | refine kp_for rfl ?_ | refine kp_forK rfl ?_ | exact kp_drop | exact kp_ret | exact kp_nil | exact kp_dput | exact kp_fld | exact kp_stk | exact kp_raise | exact kp_retN | exact kp_brk | exact kp_cnt | refine kp_seq ?_ ?_ | refine kp_set rfl | refine kp_if ?_ ?_ | refine kp_asg rfl | refine kp_par rfl rfl | refine kp_wp rfl ?_ | refine kp_gc rfl ?_)) (sb_wp (sb_cons (ss_par (i := 2) (j := 3) rfl sc_goes_round.nd rfl rfl (by decide) rfl rfl (sa_cons se_dnewM (sa_cons (sf_listM rfl T.f_list (sa_cons (se_item2 (hu65 hr) (se_var (pv 0)) (se_var (pv 1))) sa_nil)) sa_nil)) rfl) <|
  (sb_one (ss_while (n := 1000) (passes_of rfl) (st_ne (Nat.lt_of_succ_lt (hu65 hr)) (se_var (pv 3)) (se_lst sa_nil)) (sb_wp (sb_cons (ss_set (i := 4) sc_goes_round.nd rfl (.inl rfl) (sm0_pop (se_var (pv 3)))) <|
  (sb_cons (ss_if (st_eq (Nat.lt_of_succ_lt (hu65 hr)) (se_var (pv 4)) (se_var (pv 1))) (sb_one (ss_ret (se_c pe_bl fun _ _ => rfl))) sb_nil) <|
  (sb_one (ss_if (st_notIn2 (hu65 hr) (se_var (pv 4)) (se_var (pv 2))) (sb_cons (ss_dput (hu65 hr) (se_var (pv 2)) (se_var (pv 4)) (se_c pe_bl fun _ _ => rfl)) <|
  (sb_one (ss_drop (sm1_extend (se_var (pv 3)) (sa_cons (se_item2 (hu65 hr) (se_var (pv 0)) (se_var (pv 4))) sa_nil))))) sb_nil))))))))))) <|
  (sb_one (ss_ret (se_c pe_bl fun _ _ => rfl))))
theorem ca_goes_round (T : Tx g mg cs) : Ca g P w mg base 1 "goes_round" 1 c_goes_round :=
  ca_of T.d_goes_round sc_goes_round fun fa cdv A outer s1 H E hr => sb_goes_round T   hr
theorem sb_leads_of (T : Tx g mg cs) (C_all_parts : Ca g P w mg base 17 "all_parts" 1 c_all_parts) {fa : Addr} {cdv : Value} {A : Around} {outer : List PySem.Env} {s1 : Shared} {H : Hp} {E : XK} (hr : Room 17 (A.deeper (envOfC "leads_of" (defScope (top 31)) s1.heap.objs.size fa cdv))) :
    SB g E (cxOf (L2N.CX P w) P w g.K mg base ["parts", "found", "part", "own"] "leads_of" (defScope (top 31)) fa cdv A outer s1 H E) (defBody (top 31)) (b_leads_of) := by
  exact (sb_cons (ss_set (i := 1) sc_leads_of.nd rfl (.inl rfl) se_dnewM) <|
  (sb_cons (ss_for (passes_of rfl) rfl (si_iter (se_ca C_all_parts hr (by decide) rfl (fl_cons fl_nil) (sa_cons (se_var (pv 0)) sa_nil))) (sg_name (i := 2) sc_leads_of.nd rfl (.inl rfl)) (sb_wp (sb_one (ss_if (st_eq (Nat.lt_of_succ_lt (hu65 hr)) (se_item2 (hu65 hr) (se_var (pv 2)) (se_c pe_int fun _ _ => rfl)) (se_c pe_str fun _ _ => rfl)) (sb_one (ss_dput (hu65 hr) (se_var (pv 1)) (se_item2 (hu65 hr) (se_var (pv 2)) (se_c pe_int fun _ _ => rfl)) (se_lcIf rfl sc_leads_of.nd (si_iter (se_ca C_all_parts hr (by decide) rfl (fl_cons fl_nil) (sa_cons (se_item2 (hu65 hr) (se_var (pv 2)) (se_c pe_int fun _ _ => rfl)) sa_nil))) (own := [("own", 3)]) ⟨rfl, of_decide_eq_true (by kernel_rfl), of_decide_eq_true (by kernel_rfl), of_decide_eq_true (by kernel_rfl), of_decide_eq_true (by kernel_rfl)⟩ (fun _ _ _ _ _ => (sg_name (i := 3) sc_leads_of.nd rfl (.inl rfl))) (fun _ _ _ _ _ => (st_ne (Nat.lt_of_succ_lt (hu65 hr)) (se_item2 (hu65 hr) (se_var (pv 3)) (se_c pe_int fun _ _ => rfl)) (se_c pe_str fun _ _ => rfl))) (fun _ _ _ _ _ => (se_item2 (hu65 hr) (se_var (pv 3)) (se_c pe_int fun _ _ => rfl))) (by decide)))) (sb_one (ss_if (st_eq (Nat.lt_of_succ_lt (hu65 hr)) (se_item2 (hu65 hr) (se_var (pv 2)) (se_c pe_int fun _ _ => rfl)) (se_c pe_str fun _ _ => rfl)) (sb_one (ss_dput (hu65 hr) (se_var (pv 1)) (se_item2 (hu65 hr) (se_var (pv 2)) (se_c pe_int fun _ _ => rfl)) (se_lst sa_nil))) sb_nil)))))) <|
  (sb_one (ss_ret (se_var (pv 1))))))
theorem ca_leads_of (T : Tx g mg cs) : Ca g P w mg base 18 "leads_of" 1 c_leads_of :=
  ca_of T.d_leads_of sc_leads_of fun fa cdv A outer s1 H E hr => sb_leads_of T  (ca_all_parts T) hr
theorem sb_is_template (T : Tx g mg cs) (C_are_parts : Ca g P w mg base 19 "are_parts" 2 c_are_parts) (C_all_parts : Ca g P w mg base 17 "all_parts" 1 c_all_parts) (C_homes_in : Ca g P w mg base 18 "homes_in" 1 c_homes_in) (C_goes_round : Ca g P w mg base 1 "goes_round" 1 c_goes_round) (C_leads_of : Ca g P w mg base 18 "leads_of" 1 c_leads_of) {fa : Addr} {cdv : Value} {A : Around} {outer : List PySem.Env} {s1 : Shared} {H : Hp} {E : XK} (hr : Room 19 (A.deeper (envOfC "is_template" (defScope (top 33)) s1.heap.objs.size fa cdv))) :
    SB g E (cxOf (L2N.CX P w) P w g.K mg base ["thing", "homes", "own"] "is_template" (defScope (top 33)) fa cdv A outer s1 H E) (defBody (top 33)) (b_is_template) := by
  exact (sb_cons (ss_if (SW.st (sw_or (st_not (st_val (se_ca C_are_parts hr (by decide) rfl (fl_cons (fl_cons fl_nil)) (sa_cons (se_var (pv 0)) (sa_cons (se_k T.k_MOST_DEEP rfl) sa_nil))))) (sw_or1 (st_gt (sf_len2 rfl T.f_len (sa_cons (se_ca C_all_parts hr (by decide) rfl (fl_cons fl_nil) (sa_cons (se_var (pv 0)) sa_nil)) sa_nil)) (se_k T.k_MOST_PARTS rfl))))) (sb_one (ss_ret (se_c pe_bl fun _ _ => rfl))) sb_nil) <|
  (sb_cons (ss_set (i := 1) sc_is_template.nd rfl (.inr rfl) (se_ca C_homes_in hr (by decide) rfl (fl_cons fl_nil) (sa_cons (se_var (pv 0)) sa_nil))) <|
  (sb_cons (ss_if (SW.st (sw_or (st_ne (Nat.lt_of_succ_lt (hu65 hr)) (se_lenSet rfl rfl T.f_len rfl T.f_set (se_var (pv 1))) (sf_len2 rfl T.f_len (sa_cons (se_var (pv 1)) sa_nil))) (sw_or1 (st_not (st_val (sf_all rfl rfl T.f_all (sa_cons (se_lcIf rfl sc_is_template.nd (si_iter (se_ca C_all_parts hr (by decide) rfl (fl_cons fl_nil) (sa_cons (se_var (pv 0)) sa_nil))) (own := [("own", 2)]) ⟨rfl, of_decide_eq_true (by kernel_rfl), of_decide_eq_true (by kernel_rfl), of_decide_eq_true (by kernel_rfl), of_decide_eq_true (by kernel_rfl)⟩ (fun _ _ _ _ _ => (sg_name (i := 2) sc_is_template.nd rfl (.inl rfl))) (fun _ _ _ _ _ => (st_eq (Nat.lt_of_succ_lt (hu65 hr)) (se_item2 (hu65 hr) (se_var (pv 2)) (se_c pe_int fun _ _ => rfl)) (se_c pe_str fun _ _ => rfl))) (fun _ _ _ _ _ => (se_in2 (hu65 hr) (se_item2 (hu65 hr) (se_var (pv 2)) (se_c pe_int fun _ _ => rfl)) (se_var (pv 1)))) (by decide)) sa_nil))))))) (sb_one (ss_ret (se_c pe_bl fun _ _ => rfl))) sb_nil) <|
  (sb_cons (ss_if (SW.st (sw_and (st_in2 (hu65 hr) (se_c pe_int fun _ _ => rfl) (se_var (pv 1))) (sw_and1 (st_notIn2 (hu65 hr) (se_tup (sa_cons (se_c pe_str fun _ _ => rfl) (sa_cons (se_c pe_int fun _ _ => rfl) (sa_cons (se_tup sa_nil) sa_nil)))) (se_var (pv 0)))))) (sb_one (ss_ret (se_c pe_bl fun _ _ => rfl))) sb_nil) <|
  (sb_one (ss_ret (se_not (se_ca C_goes_round hr (by decide) rfl (fl_cons fl_nil) (sa_cons (se_ca C_leads_of hr (by decide) rfl (fl_cons fl_nil) (sa_cons (se_var (pv 0)) sa_nil)) sa_nil)))))))))
theorem ca_is_template (T : Tx g mg cs) : Ca g P w mg base 20 "is_template" 1 c_is_template :=
  ca_of T.d_is_template sc_is_template fun fa cdv A outer s1 H E hr => sb_is_template T  (ca_are_parts T) (ca_all_parts T) (ca_homes_in T) (ca_goes_round T) (ca_leads_of T) hr
theorem sb_need_template (T : Tx g mg cs) (C_is_template : Ca g P w mg base 20 "is_template" 1 c_is_template) {fa : Addr} {cdv : Value} {A : Around} {outer : List PySem.Env} {s1 : Shared} {H : Hp} {E : XK} (hr : Room 20 (A.deeper (envOfC "need_template" (defScope (top 34)) s1.heap.objs.size fa cdv))) :
    SB g E (cxOf (L2N.CX P w) P w g.K mg base ["template"] "need_template" (defScope (top 34)) fa cdv A outer s1 H E) (defBody (top 34)) (b_need_template) := by
  exact (sb_one (ss_if (st_not (st_val (se_ca C_is_template hr (by decide) rfl (fl_cons fl_nil) (sa_cons (se_var (pv 0)) sa_nil)))) (sb_one (ss_raise rfl T.x_BadTemplate rfl)) sb_nil))
theorem ca_need_template (T : Tx g mg cs) : Ca g P w mg base 21 "need_template" 1 c_need_template :=
  ca_of T.d_need_template sc_need_template fun fa cdv A outer s1 H E hr => sb_need_template T  (ca_is_template T) hr
theorem sb_Shelf_become (T : Tx g mg cs) {fa : Addr} {cdv : Value} {A : Around} {outer : List PySem.Env} {s1 : Shared} {H : Hp} {E : XK} (hr : Room 0 (A.deeper (envOfC "Shelf.become" (defScope (inClass (top 73) 1)) s1.heap.objs.size fa cdv))) :
    SB g E (cxOf (L2N.CX P w) P w g.K mg base ["self", "kept"] "Shelf.become" (defScope (inClass (top 73) 1)) fa cdv A outer s1 H E) (defBody (inClass (top 73) 1)) (b_Shelf_become) := by
  exact (sb_cons (ss_drop (sm1_append (se_fld T.cs_Shelf (by decide) (se_var (pv 0))) (sa_cons (se_fld T.cs_Shelf (by decide) (se_var (pv 0))) sa_nil))) <|
  (sb_cons (ss_fld T.cs_Shelf (by decide) (se_var (pv 0)) (se_lstM sa_nil)) <|
  (sb_one (ss_fld T.cs_Shelf (by decide) (se_var (pv 0)) (se_var (pv 1))))))
theorem ca_Shelf_become (T : Tx g mg cs) : Cm g P w mg base 1 21 "become" 2 c_Shelf_become :=
  cm_of T.d_Shelf_become sc_Shelf_become fun fa cdv A outer s1 H E hr => sb_Shelf_become T   hr
theorem sb_Shelf_keep (T : Tx g mg cs) (C_is_name : Ca g P w mg base 1 "is_name" 1 c_is_name) (C_need_template : Ca g P w mg base 21 "need_template" 1 c_need_template) (C_Shelf_become : Cm g P w mg base 1 21 "become" 2 c_Shelf_become) {fa : Addr} {cdv : Value} {A : Around} {outer : List PySem.Env} {s1 : Shared} {H : Hp} {E : XK} (hr : Room 21 (A.deeper (envOfC "Shelf.keep" (defScope (inClass (top 73) 3)) s1.heap.objs.size fa cdv))) :
    SB g E (cxOf (L2N.CX P w) P w g.K mg base ["self", "name", "template", "later"] "Shelf.keep" (defScope (inClass (top 73) 3)) fa cdv A outer s1 H E) (defBody (inClass (top 73) 3)) (b_Shelf_keep) := by
  exact (sb_cons (ss_if (SW.st (sw_or (st_not (st_val (se_ca C_is_name hr (by decide) rfl (fl_cons fl_nil) (sa_cons (se_var (pv 1)) sa_nil)))) (sw_or1 (SW.st (sw_and (st_notIn2 (hu65 hr) (se_var (pv 1)) (se_fld T.cs_Shelf (by decide) (se_var (pv 0)))) (sw_and1 (st_ge (sf_len2 rfl T.f_len (sa_cons (se_fld T.cs_Shelf (by decide) (se_var (pv 0))) sa_nil)) (se_k T.k_MOST_NAMES rfl)))))))) (sb_one (ss_raise rfl T.x_BadName rfl)) sb_nil) <|
  (sb_cons (ss_drop (se_ca C_need_template hr (by decide) rfl (fl_cons fl_nil) (sa_cons (se_var (pv 2)) sa_nil))) <|
  (sb_pre (sp_gc (by repeat' (first | refine kp_while ?_ | refine kp_for rfl ?_ | refine kp_forK rfl ?_ | exact kp_drop | exact kp_ret | exact kp_nil | exact kp_dput | exact kp_fld | exact kp_stk | exact kp_raise | exact kp_retN | exact kp_brk | exact kp_cnt | refine kp_seq ?_ ?_ | refine kp_set rfl | refine kp_if ?_ ?_ | refine kp_asg rfl | refine kp_par rfl rfl | refine kp_wp rfl ?_ | refine kp_gc rfl ?_)) (sp_cons (ss_set (i := 3) sc_Shelf_keep.nd rfl (.inl rfl) (sf_dictM rfl rfl T.f_dict (sa_cons (se_fld T.cs_Shelf (by decide) (se_var (pv 0))) sa_nil))) <|
  (sp_one (ss_dput (hu65 hr) (se_var (pv 3)) (se_var (pv 1)) (se_var (pv 2)))))) <|
  (sb_one (ss_drop (se_meth T.cs_Shelf C_Shelf_become hr (by decide) (se_var (pv 0)) (fl_cons fl_nil) (sa_cons (se_var (pv 3)) sa_nil)))))))
theorem ca_Shelf_keep (T : Tx g mg cs) : Cm g P w mg base 22 21 "keep" 3 c_Shelf_keep :=
  cm_of T.d_Shelf_keep sc_Shelf_keep fun fa cdv A outer s1 H E hr => sb_Shelf_keep T  (ca_is_name T) (ca_need_template T) (ca_Shelf_become T) hr
theorem sb_Shelf_need_there (T : Tx g mg cs) (C_is_name : Ca g P w mg base 1 "is_name" 1 c_is_name) {fa : Addr} {cdv : Value} {A : Around} {outer : List PySem.Env} {s1 : Shared} {H : Hp} {E : XK} (hr : Room 1 (A.deeper (envOfC "Shelf.need_there" (defScope (inClass (top 73) 2)) s1.heap.objs.size fa cdv))) :
    SB g E (cxOf (L2N.CX P w) P w g.K mg base ["self", "name"] "Shelf.need_there" (defScope (inClass (top 73) 2)) fa cdv A outer s1 H E) (defBody (inClass (top 73) 2)) (b_Shelf_need_there) := by
  exact (sb_one (ss_if (SW.st (sw_or (st_not (st_val (se_ca C_is_name hr (by decide) rfl (fl_cons fl_nil) (sa_cons (se_var (pv 1)) sa_nil)))) (sw_or1 (st_notIn2 (hu65 hr) (se_var (pv 1)) (se_fld T.cs_Shelf (by decide) (se_var (pv 0))))))) (sb_one (ss_raise rfl T.x_BadName rfl)) sb_nil))
theorem ca_Shelf_need_there (T : Tx g mg cs) : Cm g P w mg base 2 21 "need_there" 2 c_Shelf_need_there :=
  cm_of T.d_Shelf_need_there sc_Shelf_need_there fun fa cdv A outer s1 H E hr => sb_Shelf_need_there T  (ca_is_name T) hr
theorem sb_Shelf_forget (T : Tx g mg cs) (C_Shelf_need_there : Cm g P w mg base 2 21 "need_there" 2 c_Shelf_need_there) (C_Shelf_become : Cm g P w mg base 1 21 "become" 2 c_Shelf_become) {fa : Addr} {cdv : Value} {A : Around} {outer : List PySem.Env} {s1 : Shared} {H : Hp} {E : XK} (hr : Room 2 (A.deeper (envOfC "Shelf.forget" (defScope (inClass (top 73) 4)) s1.heap.objs.size fa cdv))) :
    SB g E (cxOf (L2N.CX P w) P w g.K mg base ["self", "name", "own"] "Shelf.forget" (defScope (inClass (top 73) 4)) fa cdv A outer s1 H E) (defBody (inClass (top 73) 4)) (b_Shelf_forget) := by
  exact (sb_cons (ss_drop (se_meth T.cs_Shelf C_Shelf_need_there hr (by decide) (se_var (pv 0)) (fl_cons fl_nil) (sa_cons (se_var (pv 1)) sa_nil))) <|
  (sb_one (ss_drop (se_meth T.cs_Shelf C_Shelf_become hr (by decide) (se_var (pv 0)) (fl_cons fl_nil) (sa_cons (sf_dict rfl rfl T.f_dict (sa_cons (se_lcIf rfl sc_Shelf_forget.nd (si_iter (se_fld T.cs_Shelf (by decide) (se_var (pv 0)))) (own := [("own", 2)]) ⟨rfl, of_decide_eq_true (by kernel_rfl), of_decide_eq_true (by kernel_rfl), of_decide_eq_true (by kernel_rfl), of_decide_eq_true (by kernel_rfl)⟩ (fun _ _ _ _ _ => (sg_name (i := 2) sc_Shelf_forget.nd rfl (.inl rfl))) (fun _ _ _ _ _ => (st_ne (Nat.lt_of_succ_lt (hu65 hr)) (se_var (pv 2)) (se_var (pv 1)))) (fun _ _ _ _ _ => (se_tup (sa_cons (se_var (pv 2)) (sa_cons (se_item2 (hu65 hr) (se_fld T.cs_Shelf (by decide) (se_var (pv 0))) (se_var (pv 2))) sa_nil)))) (by decide)) sa_nil)) sa_nil)))))
theorem ca_Shelf_forget (T : Tx g mg cs) : Cm g P w mg base 3 21 "forget" 2 c_Shelf_forget :=
  cm_of T.d_Shelf_forget sc_Shelf_forget fun fa cdv A outer s1 H E hr => sb_Shelf_forget T  (ca_Shelf_need_there T) (ca_Shelf_become T) hr
theorem sb_Shelf_call (T : Tx g mg cs) (C_Shelf_need_there : Cm g P w mg base 2 21 "need_there" 2 c_Shelf_need_there) (C_is_name : Ca g P w mg base 1 "is_name" 1 c_is_name) (C_Shelf_become : Cm g P w mg base 1 21 "become" 2 c_Shelf_become) {fa : Addr} {cdv : Value} {A : Around} {outer : List PySem.Env} {s1 : Shared} {H : Hp} {E : XK} (hr : Room 2 (A.deeper (envOfC "Shelf.call" (defScope (inClass (top 73) 5)) s1.heap.objs.size fa cdv))) :
    SB g E (cxOf (L2N.CX P w) P w g.K mg base ["self", "name", "other", "later", "own"] "Shelf.call" (defScope (inClass (top 73) 5)) fa cdv A outer s1 H E) (defBody (inClass (top 73) 5)) (b_Shelf_call) := by
  exact (sb_cons (ss_drop (se_meth T.cs_Shelf C_Shelf_need_there hr (by decide) (se_var (pv 0)) (fl_cons fl_nil) (sa_cons (se_var (pv 1)) sa_nil))) <|
  (sb_cons (ss_if (SW.st (sw_or (st_not (st_val (se_ca C_is_name hr (by decide) rfl (fl_cons fl_nil) (sa_cons (se_var (pv 2)) sa_nil)))) (sw_or1 (st_in2 (hu65 hr) (se_var (pv 2)) (se_fld T.cs_Shelf (by decide) (se_var (pv 0))))))) (sb_one (ss_raise rfl T.x_BadName rfl)) sb_nil) <|
  (sb_pre (sp_gc (by repeat' (first | refine kp_while ?_ | refine kp_for rfl ?_ | refine kp_forK rfl ?_ | exact kp_drop | exact kp_ret | exact kp_nil | exact kp_dput | exact kp_fld | exact kp_stk | exact kp_raise | exact kp_retN | exact kp_brk | exact kp_cnt | refine kp_seq ?_ ?_ | refine kp_set rfl | refine kp_if ?_ ?_ | refine kp_asg rfl | refine kp_par rfl rfl | refine kp_wp rfl ?_ | refine kp_gc rfl ?_)) (sp_cons (ss_set (i := 3) sc_Shelf_call.nd rfl (.inl rfl) (sf_dictM rfl rfl T.f_dict (sa_cons (se_lcIf rfl sc_Shelf_call.nd (si_iter (se_fld T.cs_Shelf (by decide) (se_var (pv 0)))) (own := [("own", 4)]) ⟨rfl, of_decide_eq_true (by kernel_rfl), of_decide_eq_true (by kernel_rfl), of_decide_eq_true (by kernel_rfl), of_decide_eq_true (by kernel_rfl)⟩ (fun _ _ _ _ _ => (sg_name (i := 4) sc_Shelf_call.nd rfl (.inl rfl))) (fun _ _ _ _ _ => (st_ne (Nat.lt_of_succ_lt (hu65 hr)) (se_var (pv 4)) (se_var (pv 1)))) (fun _ _ _ _ _ => (se_tup (sa_cons (se_var (pv 4)) (sa_cons (se_item2 (hu65 hr) (se_fld T.cs_Shelf (by decide) (se_var (pv 0))) (se_var (pv 4))) sa_nil)))) (by decide)) sa_nil))) <|
  (sp_one (ss_dput (hu65 hr) (se_var (pv 3)) (se_var (pv 2)) (se_item2 (hu65 hr) (se_fld T.cs_Shelf (by decide) (se_var (pv 0))) (se_var (pv 1))))))) <|
  (sb_one (ss_drop (se_meth T.cs_Shelf C_Shelf_become hr (by decide) (se_var (pv 0)) (fl_cons fl_nil) (sa_cons (se_var (pv 3)) sa_nil)))))))
theorem ca_Shelf_call (T : Tx g mg cs) : Cm g P w mg base 3 21 "call" 3 c_Shelf_call :=
  cm_of T.d_Shelf_call sc_Shelf_call fun fa cdv A outer s1 H E hr => sb_Shelf_call T  (ca_Shelf_need_there T) (ca_is_name T) (ca_Shelf_become T) hr
theorem sb_Shelf_template (T : Tx g mg cs) (C_Shelf_need_there : Cm g P w mg base 2 21 "need_there" 2 c_Shelf_need_there) {fa : Addr} {cdv : Value} {A : Around} {outer : List PySem.Env} {s1 : Shared} {H : Hp} {E : XK} (hr : Room 2 (A.deeper (envOfC "Shelf.template" (defScope (inClass (top 73) 9)) s1.heap.objs.size fa cdv))) :
    SB g E (cxOf (L2N.CX P w) P w g.K mg base ["self", "name"] "Shelf.template" (defScope (inClass (top 73) 9)) fa cdv A outer s1 H E) (defBody (inClass (top 73) 9)) (b_Shelf_template) := by
  exact (sb_cons (ss_drop (se_meth T.cs_Shelf C_Shelf_need_there hr (by decide) (se_var (pv 0)) (fl_cons fl_nil) (sa_cons (se_var (pv 1)) sa_nil))) <|
  (sb_one (ss_ret (se_item2 (hu65 hr) (se_fld T.cs_Shelf (by decide) (se_var (pv 0))) (se_var (pv 1))))))
theorem ca_Shelf_template (T : Tx g mg cs) : Cm g P w mg base 3 21 "template" 2 c_Shelf_template :=
  cm_of T.d_Shelf_template sc_Shelf_template fun fa cdv A outer s1 H E hr => sb_Shelf_template T  (ca_Shelf_need_there T) hr
theorem sb_Shelf_walk (T : Tx g mg cs) (C_Shelf_need_there : Cm g P w mg base 2 21 "need_there" 2 c_Shelf_need_there) {fa : Addr} {cdv : Value} {A : Around} {outer : List PySem.Env} {s1 : Shared} {H : Hp} {E : XK} (hr : Room 2 (A.deeper (envOfC "Shelf.walk" (defScope (inClass (top 73) 12)) s1.heap.objs.size fa cdv))) :
    SB g E (cxOf (L2N.CX P w) P w g.K mg base ["self", "name"] "Shelf.walk" (defScope (inClass (top 73) 12)) fa cdv A outer s1 H E) (defBody (inClass (top 73) 12)) (b_Shelf_walk) := by
  exact (sb_cons (ss_drop (se_meth T.cs_Shelf C_Shelf_need_there hr (by decide) (se_var (pv 0)) (fl_cons fl_nil) (sa_cons (se_var (pv 1)) sa_nil))) <|
  (sb_one (ss_ret se_stk)))
theorem ca_Shelf_walk (T : Tx g mg cs) : Cm g P w mg base 3 21 "walk" 2 c_Shelf_walk :=
  cm_of T.d_Shelf_walk sc_Shelf_walk fun fa cdv A outer s1 H E hr => sb_Shelf_walk T  (ca_Shelf_need_there T) hr
theorem sb_Shelf_row_of (T : Tx g mg cs) (C_Shelf_need_there : Cm g P w mg base 2 21 "need_there" 2 c_Shelf_need_there) {fa : Addr} {cdv : Value} {A : Around} {outer : List PySem.Env} {s1 : Shared} {H : Hp} {E : XK} (hr : Room 2 (A.deeper (envOfC "Shelf.row_of" (defScope (inClass (top 73) 11)) s1.heap.objs.size fa cdv))) :
    SB g E (cxOf (L2N.CX P w) P w g.K mg base ["self", "names", "name", "found"] "Shelf.row_of" (defScope (inClass (top 73) 11)) fa cdv A outer s1 H E) (defBody (inClass (top 73) 11)) (b_Shelf_row_of) := by
  exact (sb_cons (ss_if (SW.st (sw_or (st_not (st_val (sf_is_list (se_var (pv 1)) rfl T.f_isinstance rfl T.f_list))) (sw_or1 (st_eq (Nat.lt_of_succ_lt (hu65 hr)) (se_var (pv 1)) (se_lst sa_nil))))) (sb_one (ss_raise rfl T.x_BadName rfl)) sb_nil) <|
  (sb_cons (ss_for (passes_of rfl) rfl (si_iter (se_var (pv 1))) (sg_name (i := 2) sc_Shelf_row_of.nd rfl (.inl rfl)) (sb_wp (sb_one (ss_drop (se_meth T.cs_Shelf C_Shelf_need_there hr (by decide) (se_var (pv 0)) (fl_cons fl_nil) (sa_cons (se_var (pv 2)) sa_nil)))))) <|
  (sb_cons (ss_set (i := 3) sc_Shelf_row_of.nd rfl (.inl rfl) (se_item2 (hu65 hr) (se_fld T.cs_Shelf (by decide) (se_var (pv 0))) (se_item2 (hu65 hr) (se_var (pv 1)) (se_c pe_int fun _ _ => rfl)))) <|
  (sb_cons (ss_for (passes_of rfl) rfl (si_iter (se_slice (se_var (pv 1)) (so_some (se_c pe_int fun _ _ => rfl)) so_none)) (sg_name (i := 2) sc_Shelf_row_of.nd rfl (.inl rfl)) (sb_wp (sb_one (ss_set (i := 3) sc_Shelf_row_of.nd rfl (.inl rfl) se_stk)))) <|
  (sb_one (ss_ret (se_var (pv 3))))))))
theorem ca_Shelf_row_of (T : Tx g mg cs) : Cm g P w mg base 3 21 "row_of" 2 c_Shelf_row_of :=
  cm_of T.d_Shelf_row_of sc_Shelf_row_of fun fa cdv A outer s1 H E hr => sb_Shelf_row_of T  (ca_Shelf_need_there T) hr
theorem sb_Shelf_undo (T : Tx g mg cs) {fa : Addr} {cdv : Value} {A : Around} {outer : List PySem.Env} {s1 : Shared} {H : Hp} {E : XK} (hr : Room 0 (A.deeper (envOfC "Shelf.undo" (defScope (inClass (top 73) 6)) s1.heap.objs.size fa cdv))) :
    SB g E (cxOf (L2N.CX P w) P w g.K mg base ["self"] "Shelf.undo" (defScope (inClass (top 73) 6)) fa cdv A outer s1 H E) (defBody (inClass (top 73) 6)) (b_Shelf_undo) := by
  exact (sb_cons (ss_if (st_eq (Nat.lt_of_succ_lt (hu65 hr)) (se_fld T.cs_Shelf (by decide) (se_var (pv 0))) (se_lst sa_nil)) (sb_one (ss_raise rfl T.x_Nothing rfl)) sb_nil) <|
  (sb_cons (ss_drop (sm1_append (se_fld T.cs_Shelf (by decide) (se_var (pv 0))) (sa_cons (se_fld T.cs_Shelf (by decide) (se_var (pv 0))) sa_nil))) <|
  (sb_one (ss_fld T.cs_Shelf (by decide) (se_var (pv 0)) (sm0_pop (se_fld T.cs_Shelf (by decide) (se_var (pv 0))))))))
theorem ca_Shelf_undo (T : Tx g mg cs) : Cm g P w mg base 1 21 "undo" 1 c_Shelf_undo :=
  cm_of T.d_Shelf_undo sc_Shelf_undo fun fa cdv A outer s1 H E hr => sb_Shelf_undo T   hr
theorem sb_Shelf_names (T : Tx g mg cs) {fa : Addr} {cdv : Value} {A : Around} {outer : List PySem.Env} {s1 : Shared} {H : Hp} {E : XK} (hr : Room 0 (A.deeper (envOfC "Shelf.names" (defScope (inClass (top 73) 8)) s1.heap.objs.size fa cdv))) :
    SB g E (cxOf (L2N.CX P w) P w g.K mg base ["self"] "Shelf.names" (defScope (inClass (top 73) 8)) fa cdv A outer s1 H E) (defBody (inClass (top 73) 8)) (b_Shelf_names) := by
  exact (sb_one (ss_ret (sf_sorted rfl rfl T.f_sorted (sa_cons (se_fld T.cs_Shelf (by decide) (se_var (pv 0))) sa_nil))))
theorem ca_Shelf_names (T : Tx g mg cs) : Cm g P w mg base 1 21 "names" 1 c_Shelf_names :=
  cm_of T.d_Shelf_names sc_Shelf_names fun fa cdv A outer s1 H E hr => sb_Shelf_names T   hr
theorem sb_Shelf_starts (T : Tx g mg cs) {fa : Addr} {cdv : Value} {A : Around} {outer : List PySem.Env} {s1 : Shared} {H : Hp} {E : XK} (hr : Room 0 (A.deeper (envOfC "Shelf.starts" (defScope (inClass (top 73) 10)) s1.heap.objs.size fa cdv))) :
    SB g E (cxOf (L2N.CX P w) P w g.K mg base ["self", "signs", "name"] "Shelf.starts" (defScope (inClass (top 73) 10)) fa cdv A outer s1 H E) (defBody (inClass (top 73) 10)) (b_Shelf_starts) := by
  exact (sb_cons (ss_if (st_not (st_val (sf_is_str (se_var (pv 1)) rfl T.f_isinstance rfl T.f_str))) (sb_one (ss_raise rfl T.x_BadText rfl)) sb_nil) <|
  (sb_one (ss_ret (se_lcIf rfl sc_Shelf_starts.nd (si_iter (sf_sorted rfl rfl T.f_sorted (sa_cons (se_fld T.cs_Shelf (by decide) (se_var (pv 0))) sa_nil))) (own := [("name", 2)]) ⟨rfl, of_decide_eq_true (by kernel_rfl), of_decide_eq_true (by kernel_rfl), of_decide_eq_true (by kernel_rfl), of_decide_eq_true (by kernel_rfl)⟩ (fun _ _ _ _ _ => (sg_name (i := 2) sc_Shelf_starts.nd rfl (.inl rfl))) (fun _ _ _ _ _ => (st_val (sm1_startswith (se_var (pv 2)) (sa_cons (se_var (pv 1)) sa_nil)))) (fun _ _ _ _ _ => (se_var (pv 2))) (by decide)))))
theorem ca_Shelf_starts (T : Tx g mg cs) : Cm g P w mg base 1 21 "starts" 2 c_Shelf_starts :=
  cm_of T.d_Shelf_starts sc_Shelf_starts fun fa cdv A outer s1 H E hr => sb_Shelf_starts T   hr
theorem sb_parts_from (T : Tx g mg cs) (n : Nat) {r_hole_from : List D → Store → R D} (C_hole_from : Ca g P w mg base (1 + n) "hole_from" 3 r_hole_from) {fa : Addr} {cdv : Value} {A : Around} {outer : List PySem.Env} {s1 : Shared} {H : Hp} {E : XK} (hr : Room (1 + n) (A.deeper (envOfC "parts_from" (defScope (top 41)) s1.heap.objs.size fa cdv))) :
    SB g E (cxOf (L2N.CX P w) P w g.K mg base ["text", "at", "deep", "found", "part", "end"] "parts_from" (defScope (top 41)) fa cdv A outer s1 H E) (defBody (top 41)) (b_parts_from r_hole_from) := by
  exact (sb_pre (sp_gc (by repeat' (first | refine kp_while ?_ | refine kp_for rfl ?_ | refine kp_forK rfl ?_ | exact kp_drop | exact kp_ret | exact kp_nil | exact kp_dput | exact kp_fld | exact kp_stk | exact kp_raise | exact kp_retN | exact kp_brk | exact kp_cnt | refine kp_seq ?_ ?_ | refine kp_set rfl | refine kp_if ?_ ?_ | refine kp_asg rfl | refine kp_par rfl rfl | refine kp_wp rfl ?_ | refine kp_gc rfl ?_)) (sp_wp (sp_cons (ss_set (i := 3) sc_parts_from.nd rfl (.inl rfl) (se_lstM sa_nil)) <|
  (sp_one (ss_while (n := 1000) (passes_of rfl) (SW.st (sw_and (st_lt (se_var (pv 1)) (sf_len2 rfl T.f_len (sa_cons (se_var (pv 0)) sa_nil))) (sw_and1 (st_ne (Nat.lt_of_succ_lt (hu65 hr)) (se_item2 (hu65 hr) (se_var (pv 0)) (se_var (pv 1))) (se_c pe_str fun _ _ => rfl))))) (sb_wp (sb_one (ss_if (st_eq (Nat.lt_of_succ_lt (hu65 hr)) (se_item2 (hu65 hr) (se_var (pv 0)) (se_var (pv 1))) (se_c pe_str fun _ _ => rfl)) (sb_cons (ss_asg (se_ca C_hole_from hr (Nat.le_refl _) rfl (fl_cons (fl_cons (fl_cons fl_nil))) (sa_cons (se_var (pv 0)) (sa_cons (se_add (se_var (pv 1)) (se_c pe_int fun _ _ => rfl)) (sa_cons (se_var (pv 2)) sa_nil)))) (sg_tup rfl (sgs_cons (i := 4) sc_parts_from.nd rfl (.inl rfl) (sgs_cons (i := 1) sc_parts_from.nd rfl (.inl rfl) sgs_nil)))) <|
  (sb_one (ss_drop (sm1_append (se_var (pv 3)) (sa_cons (se_var (pv 4)) sa_nil))))) (sb_cons (ss_set (i := 5) sc_parts_from.nd rfl (.inl rfl) (se_var (pv 1))) <|
  (sb_cons (ss_while (n := 1000) (passes_of rfl) (SW.st (sw_and (st_lt (se_var (pv 5)) (sf_len2 rfl T.f_len (sa_cons (se_var (pv 0)) sa_nil))) (sw_and1 (st_notIn2 (hu65 hr) (se_item2 (hu65 hr) (se_var (pv 0)) (se_var (pv 5))) (se_c pe_str fun _ _ => rfl))))) (sb_one (ss_set (i := 5) sc_parts_from.nd rfl (.inl rfl) (se_add (se_var (pv 5)) (se_c pe_int fun _ _ => rfl))))) <|
  (sb_cons (ss_if (st_eq (Nat.lt_of_succ_lt (hu65 hr)) (se_var (pv 5)) (se_var (pv 1))) (sb_one (ss_raise rfl T.x_BadText rfl)) sb_nil) <|
  (sb_cons (ss_drop (sm1_append (se_var (pv 3)) (sa_cons (se_tup (sa_cons (se_c pe_str fun _ _ => rfl) (sa_cons (se_slice (se_var (pv 0)) (so_some (se_var (pv 1))) (so_some (se_var (pv 5)))) sa_nil))) sa_nil))) <|
  (sb_one (ss_set (i := 1) sc_parts_from.nd rfl (.inl rfl) (se_var (pv 5)))))))))))))))) <|
  (sb_one (ss_ret (se_tup (sa_cons (sf_tuple rfl T.f_tuple (sa_cons (se_var (pv 3)) sa_nil)) (sa_cons (se_var (pv 1)) sa_nil))))))
theorem sb_hole_from (T : Tx g mg cs) (n : Nat) {r_parts_from : List D → Store → R D} (C_parts_from : Ca g P w mg base (1 + n) "parts_from" 3 r_parts_from) {fa : Addr} {cdv : Value} {A : Around} {outer : List PySem.Env} {s1 : Shared} {H : Hp} {E : XK} (hr : Room (1 + n) (A.deeper (envOfC "hole_from" (defScope (top 42)) s1.heap.objs.size fa cdv))) :
    SB g E (cxOf (L2N.CX P w) P w g.K mg base ["text", "at", "deep", "number", "word", "content", "end", "inner"] "hole_from" (defScope (top 42)) fa cdv A outer s1 H E) (defBody (top 42)) (b_hole_from r_parts_from) := by
  exact (sb_cons (ss_if (SW.st (sw_or (st_eq (Nat.lt_of_succ_lt (hu65 hr)) (se_slice (se_var (pv 0)) (so_some (se_var (pv 1))) (so_some (se_add (se_var (pv 1)) (se_c pe_int fun _ _ => rfl)))) (se_c pe_str fun _ _ => rfl)) (sw_or1 (st_notIn2 (hu65 hr) (se_item2 (hu65 hr) (se_var (pv 0)) (se_var (pv 1))) (se_k T.k_FIGURES rfl))))) (sb_one (ss_raise rfl T.x_BadText rfl)) sb_nil) <|
  (sb_cons (ss_par (i := 3) (j := 4) rfl sc_hole_from.nd rfl rfl (by decide) rfl rfl (sa_cons (sf_int rfl T.f_int (sa_cons (se_item2 (hu65 hr) (se_var (pv 0)) (se_var (pv 1))) sa_nil)) (sa_cons (se_slice (se_var (pv 0)) (so_some (se_add (se_var (pv 1)) (se_c pe_int fun _ _ => rfl))) (so_some (se_add (se_var (pv 1)) (se_c pe_int fun _ _ => rfl)))) sa_nil)) rfl) <|
  (sb_cons (ss_if (st_eq (Nat.lt_of_succ_lt (hu65 hr)) (se_var (pv 4)) (se_c pe_str fun _ _ => rfl)) (sb_cons (ss_if (st_eq (Nat.lt_of_succ_lt (hu65 hr)) (se_var (pv 2)) (se_c pe_int fun _ _ => rfl)) (sb_one (ss_raise rfl T.x_BadText rfl)) sb_nil) <|
  (sb_cons (ss_asg (se_ca C_parts_from hr (Nat.le_refl _) rfl (fl_cons (fl_cons (fl_cons fl_nil))) (sa_cons (se_var (pv 0)) (sa_cons (se_add (se_var (pv 1)) (se_c pe_int fun _ _ => rfl)) (sa_cons (se_sub (se_var (pv 2)) (se_c pe_int fun _ _ => rfl)) sa_nil)))) (sg_tup rfl (sgs_cons (i := 5) sc_hole_from.nd rfl (.inl rfl) (sgs_cons (i := 6) sc_hole_from.nd rfl (.inl rfl) sgs_nil)))) <|
  (sb_cons (ss_if (st_ne (Nat.lt_of_succ_lt (hu65 hr)) (se_slice (se_var (pv 0)) (so_some (se_var (pv 6))) (so_some (se_add (se_var (pv 6)) (se_c pe_int fun _ _ => rfl)))) (se_c pe_str fun _ _ => rfl)) (sb_one (ss_raise rfl T.x_BadText rfl)) sb_nil) <|
  (sb_one (ss_ret (se_tup (sa_cons (se_tup (sa_cons (se_c pe_str fun _ _ => rfl) (sa_cons (se_var (pv 3)) (sa_cons (se_var (pv 5)) sa_nil)))) (sa_cons (se_add (se_var (pv 6)) (se_c pe_int fun _ _ => rfl)) sa_nil)))))))) sb_nil) <|
  (sb_cons (ss_set (i := 6) sc_hole_from.nd rfl (.inl rfl) (sm1_find (se_var (pv 0)) (sa_cons (se_c pe_str fun _ _ => rfl) (sa_cons (se_var (pv 1)) sa_nil)))) <|
  (sb_cons (ss_if (SW.st (sw_or (st_lt (se_var (pv 6)) (se_c pe_int fun _ _ => rfl)) (sw_or1 (st_notIn2 (hu65 hr) (se_var (pv 4)) (se_tup (sa_cons (se_c pe_str fun _ _ => rfl) (sa_cons (se_c pe_str fun _ _ => rfl) sa_nil))))))) (sb_one (ss_raise rfl T.x_BadText rfl)) sb_nil) <|
  (sb_cons (ss_set (i := 7) sc_hole_from.nd rfl (.inl rfl) (se_slice (se_var (pv 0)) (so_some (se_add (se_var (pv 1)) (se_c pe_int fun _ _ => rfl))) (so_some (se_var (pv 6))))) <|
  (sb_cons (ss_if (st_eq (Nat.lt_of_succ_lt (hu65 hr)) (se_var (pv 4)) (se_c pe_str fun _ _ => rfl)) (sb_one (ss_ret (se_tup (sa_cons (se_tup (sa_cons (se_c pe_str fun _ _ => rfl) (sa_cons (se_var (pv 3)) (sa_cons (se_var (pv 7)) sa_nil)))) (sa_cons (se_add (se_var (pv 6)) (se_c pe_int fun _ _ => rfl)) sa_nil))))) sb_nil) <|
  (sb_one (ss_ret (se_tup (sa_cons (se_tup (sa_cons (se_c pe_str fun _ _ => rfl) (sa_cons (se_var (pv 3)) (sa_cons (sf_tuple rfl T.f_tuple (sa_cons (sm1_split (se_var (pv 7)) (sa_cons (se_c pe_str fun _ _ => rfl) sa_nil)) sa_nil)) sa_nil)))) (sa_cons (se_add (se_var (pv 6)) (se_c pe_int fun _ _ => rfl)) sa_nil))))))))))))
theorem cG_parts_from (T : Tx g mg cs) : ∀ n, (Ca g P w mg base (1 + n) "parts_from" 3 (cF_parts_from n)) ∧ (Ca g P w mg base (1 + n) "hole_from" 3 (cF_hole_from n))
  | 0 => ⟨ca_stk T.d_parts_from sc_parts_from rfl, ca_stk T.d_hole_from sc_hole_from rfl⟩
  | n + 1 => by
    have ih := cG_parts_from T n
    obtain ⟨h0, h1⟩ := ih
    exact ⟨ca_of T.d_parts_from sc_parts_from fun fa cdv A outer s1 H E hr => sb_parts_from T n h1  hr, ca_of T.d_hole_from sc_hole_from fun fa cdv A outer s1 H E hr => sb_hole_from T n h0  hr⟩
theorem ca_parts_from (T : Tx g mg cs) : Ca g P w mg base 17 "parts_from" 3 c_parts_from := (cG_parts_from T 16).1
theorem ca_hole_from (T : Tx g mg cs) : Ca g P w mg base 17 "hole_from" 3 c_hole_from := (cG_parts_from T 16).2
theorem sb_part_text (T : Tx g mg cs) (n : Nat) {r_part_text : List D → Store → R D} (C_part_text : Ca g P w mg base (1 + n) "part_text" 1 r_part_text) {fa : Addr} {cdv : Value} {A : Around} {outer : List PySem.Env} {s1 : Shared} {H : Hp} {E : XK} (hr : Room (1 + n) (A.deeper (envOfC "part_text" (defScope (top 39)) s1.heap.objs.size fa cdv))) :
    SB g E (cxOf (L2N.CX P w) P w g.K mg base ["part", "head", "one"] "part_text" (defScope (top 39)) fa cdv A outer s1 H E) (defBody (top 39)) (b_part_text r_part_text) := by
  exact (sb_cons (ss_if (st_eq (Nat.lt_of_succ_lt (hu65 hr)) (se_item2 (hu65 hr) (se_var (pv 0)) (se_c pe_int fun _ _ => rfl)) (se_c pe_str fun _ _ => rfl)) (sb_one (ss_ret (se_item2 (hu65 hr) (se_var (pv 0)) (se_c pe_int fun _ _ => rfl)))) sb_nil) <|
  (sb_cons (ss_set (i := 1) sc_part_text.nd rfl (.inl rfl) (se_add (se_c pe_str fun _ _ => rfl) (sf_str rfl T.f_str (sa_cons (se_item2 (hu65 hr) (se_var (pv 0)) (se_c pe_int fun _ _ => rfl)) sa_nil)))) <|
  (sb_cons (ss_if (st_eq (Nat.lt_of_succ_lt (hu65 hr)) (se_item2 (hu65 hr) (se_var (pv 0)) (se_c pe_int fun _ _ => rfl)) (se_c pe_str fun _ _ => rfl)) (sb_one (ss_ret (se_add (se_add (se_add (se_var (pv 1)) (se_c pe_str fun _ _ => rfl)) (sm1_join (se_c pe_str fun _ _ => rfl) (sa_cons (se_lc rfl sc_part_text.nd (si_iter (se_item2 (hu65 hr) (se_var (pv 0)) (se_c pe_int fun _ _ => rfl))) (own := [("one", 2)]) ⟨rfl, of_decide_eq_true (by kernel_rfl), of_decide_eq_true (by kernel_rfl), of_decide_eq_true (by kernel_rfl), of_decide_eq_true (by kernel_rfl)⟩ (fun _ _ _ _ _ => (sg_name (i := 2) sc_part_text.nd rfl (.inl rfl))) (fun _ _ _ _ _ => (se_ca C_part_text hr (Nat.le_refl _) rfl (fl_cons fl_nil) (sa_cons (se_var (pv 2)) sa_nil))) (by decide)) sa_nil))) (se_c pe_str fun _ _ => rfl)))) sb_nil) <|
  (sb_cons (ss_if (st_eq (Nat.lt_of_succ_lt (hu65 hr)) (se_item2 (hu65 hr) (se_var (pv 0)) (se_c pe_int fun _ _ => rfl)) (se_c pe_str fun _ _ => rfl)) (sb_one (ss_ret (se_add (se_add (se_add (se_var (pv 1)) (se_c pe_str fun _ _ => rfl)) (sm1_join (se_c pe_str fun _ _ => rfl) (sa_cons (se_item2 (hu65 hr) (se_var (pv 0)) (se_c pe_int fun _ _ => rfl)) sa_nil))) (se_c pe_str fun _ _ => rfl)))) sb_nil) <|
  (sb_one (ss_ret (se_add (se_add (se_add (se_var (pv 1)) (se_c pe_str fun _ _ => rfl)) (se_item2 (hu65 hr) (se_var (pv 0)) (se_c pe_int fun _ _ => rfl))) (se_c pe_str fun _ _ => rfl))))))))
theorem cG_part_text (T : Tx g mg cs) : ∀ n, (Ca g P w mg base (1 + n) "part_text" 1 (cF_part_text n))
  | 0 => ca_stk T.d_part_text sc_part_text rfl
  | n + 1 => by
    have ih := cG_part_text T n
    have h0 := ih
    exact ca_of T.d_part_text sc_part_text fun fa cdv A outer s1 H E hr => sb_part_text T n h0  hr
theorem ca_part_text (T : Tx g mg cs) : Ca g P w mg base 17 "part_text" 1 c_part_text := (cG_part_text T 16)
theorem sb_written (T : Tx g mg cs) (C_need_template : Ca g P w mg base 21 "need_template" 1 c_need_template) (C_part_text : Ca g P w mg base 17 "part_text" 1 c_part_text) {fa : Addr} {cdv : Value} {A : Around} {outer : List PySem.Env} {s1 : Shared} {H : Hp} {E : XK} (hr : Room 21 (A.deeper (envOfC "written" (defScope (top 40)) s1.heap.objs.size fa cdv))) :
    SB g E (cxOf (L2N.CX P w) P w g.K mg base ["template", "part"] "written" (defScope (top 40)) fa cdv A outer s1 H E) (defBody (top 40)) (b_written) := by
  exact (sb_cons (ss_drop (se_ca C_need_template hr (by decide) rfl (fl_cons fl_nil) (sa_cons (se_var (pv 0)) sa_nil))) <|
  (sb_one (ss_ret (sm1_join (se_c pe_str fun _ _ => rfl) (sa_cons (se_lc rfl sc_written.nd (si_iter (se_var (pv 0))) (own := [("part", 1)]) ⟨rfl, of_decide_eq_true (by kernel_rfl), of_decide_eq_true (by kernel_rfl), of_decide_eq_true (by kernel_rfl), of_decide_eq_true (by kernel_rfl)⟩ (fun _ _ _ _ _ => (sg_name (i := 1) sc_written.nd rfl (.inl rfl))) (fun _ _ _ _ _ => (se_ca C_part_text hr (by decide) rfl (fl_cons fl_nil) (sa_cons (se_var (pv 1)) sa_nil))) (by decide)) sa_nil)))))
theorem ca_written (T : Tx g mg cs) : Ca g P w mg base 22 "written" 1 c_written :=
  ca_of T.d_written sc_written fun fa cdv A outer s1 H E hr => sb_written T  (ca_need_template T) (ca_part_text T) hr
theorem sb_read (T : Tx g mg cs) (C_parts_from : Ca g P w mg base 17 "parts_from" 3 c_parts_from) (C_is_template : Ca g P w mg base 20 "is_template" 1 c_is_template) (C_written : Ca g P w mg base 22 "written" 1 c_written) {fa : Addr} {cdv : Value} {A : Around} {outer : List PySem.Env} {s1 : Shared} {H : Hp} {E : XK} (hr : Room 22 (A.deeper (envOfC "read" (defScope (top 43)) s1.heap.objs.size fa cdv))) :
    SB g E (cxOf (L2N.CX P w) P w g.K mg base ["text", "found", "end"] "read" (defScope (top 43)) fa cdv A outer s1 H E) (defBody (top 43)) (b_read) := by
  exact (sb_cons (ss_if (st_not (st_val (sf_is_str (se_var (pv 0)) rfl T.f_isinstance rfl T.f_str))) (sb_one (ss_raise rfl T.x_BadText rfl)) sb_nil) <|
  (sb_cons (ss_asg (se_ca C_parts_from hr (by decide) rfl (fl_cons (fl_cons (fl_cons fl_nil))) (sa_cons (se_var (pv 0)) (sa_cons (se_c pe_int fun _ _ => rfl) (sa_cons (se_k T.k_MOST_DEEP rfl) sa_nil)))) (sg_tup rfl (sgs_cons (i := 1) sc_read.nd rfl (.inl rfl) (sgs_cons (i := 2) sc_read.nd rfl (.inl rfl) sgs_nil)))) <|
  (sb_cons (ss_if (SW.st (sw_or (st_ne (Nat.lt_of_succ_lt (hu65 hr)) (se_var (pv 2)) (sf_len2 rfl T.f_len (sa_cons (se_var (pv 0)) sa_nil))) (sw_or (st_not (st_val (se_ca C_is_template hr (by decide) rfl (fl_cons fl_nil) (sa_cons (se_var (pv 1)) sa_nil)))) (sw_or1 (st_ne (Nat.lt_of_succ_lt (hu65 hr)) (se_ca C_written hr (by decide) rfl (fl_cons fl_nil) (sa_cons (se_var (pv 1)) sa_nil)) (se_var (pv 0))))))) (sb_one (ss_raise rfl T.x_BadText rfl)) sb_nil) <|
  (sb_one (ss_ret (se_var (pv 1)))))))
theorem ca_read (T : Tx g mg cs) : Ca g P w mg base 23 "read" 1 c_read :=
  ca_of T.d_read sc_read fun fa cdv A outer s1 H E hr => sb_read T  (ca_parts_from T) (ca_is_template T) (ca_written T) hr
theorem sb_Shelf_load (T : Tx g mg cs) (C_is_name : Ca g P w mg base 1 "is_name" 1 c_is_name) (C_read : Ca g P w mg base 23 "read" 1 c_read) (C_Shelf_become : Cm g P w mg base 1 21 "become" 2 c_Shelf_become) {fa : Addr} {cdv : Value} {A : Around} {outer : List PySem.Env} {s1 : Shared} {H : Hp} {E : XK} (hr : Room 23 (A.deeper (envOfC "Shelf.load" (defScope (inClass (top 73) 14)) s1.heap.objs.size fa cdv))) :
    SB g E (cxOf (L2N.CX P w) P w g.K mg base ["self", "rows", "row", "later", "name", "gap", "text"] "Shelf.load" (defScope (inClass (top 73) 14)) fa cdv A outer s1 H E) (defBody (inClass (top 73) 14)) (b_Shelf_load) := by
  exact (sb_cons (ss_if (SW.st (sw_or (st_not (st_val (sf_is_list (se_var (pv 1)) rfl T.f_isinstance rfl T.f_list))) (sw_or1 (st_not (st_val (sf_all rfl rfl T.f_all (sa_cons (se_lc rfl sc_Shelf_load.nd (si_iter (se_var (pv 1))) (own := [("row", 2)]) ⟨rfl, of_decide_eq_true (by kernel_rfl), of_decide_eq_true (by kernel_rfl), of_decide_eq_true (by kernel_rfl), of_decide_eq_true (by kernel_rfl)⟩ (fun _ _ _ _ _ => (sg_name (i := 2) sc_Shelf_load.nd rfl (.inl rfl))) (fun _ _ _ _ _ => (sf_is_str (se_var (pv 2)) rfl T.f_isinstance rfl T.f_str)) (by decide)) sa_nil))))))) (sb_one (ss_raise rfl T.x_BadText rfl)) sb_nil) <|
  (sb_pre (sp_gc (by repeat' (first | refine kp_while ?_ | refine kp_for rfl ?_ | refine kp_forK rfl ?_ | exact kp_drop | exact kp_ret | exact kp_nil | exact kp_dput | exact kp_fld | exact kp_stk | exact kp_raise | exact kp_retN | exact kp_brk | exact kp_cnt | refine kp_seq ?_ ?_ | refine kp_set rfl | refine kp_if ?_ ?_ | refine kp_asg rfl | refine kp_par rfl rfl | refine kp_wp rfl ?_ | refine kp_gc rfl ?_)) (sp_wp (sp_cons (ss_set (i := 3) sc_Shelf_load.nd rfl (.inl rfl) se_dnewM) <|
  (sp_one (ss_for (passes_of rfl) rfl (si_iter (se_var (pv 1))) (sg_name (i := 2) sc_Shelf_load.nd rfl (.inl rfl)) (sb_wp (sb_cons (ss_asg (sm1_partition (se_var (pv 2)) (sa_cons (se_c pe_str fun _ _ => rfl) sa_nil)) (sg_tup rfl (sgs_cons (i := 4) sc_Shelf_load.nd rfl (.inl rfl) (sgs_cons (i := 5) sc_Shelf_load.nd rfl (.inl rfl) (sgs_cons (i := 6) sc_Shelf_load.nd rfl (.inl rfl) sgs_nil))))) <|
  (sb_cons (ss_if (SW.st (sw_or (st_not (st_val (se_ca C_is_name hr (by decide) rfl (fl_cons fl_nil) (sa_cons (se_var (pv 4)) sa_nil)))) (sw_or (st_eq (Nat.lt_of_succ_lt (hu65 hr)) (se_var (pv 5)) (se_c pe_str fun _ _ => rfl)) (sw_or (st_in2 (hu65 hr) (se_var (pv 4)) (se_var (pv 3))) (sw_or1 (st_ge (sf_len2 rfl T.f_len (sa_cons (se_var (pv 3)) sa_nil)) (se_k T.k_MOST_NAMES rfl))))))) (sb_one (ss_raise rfl T.x_BadName rfl)) sb_nil) <|
  (sb_one (ss_dput (hu65 hr) (se_var (pv 3)) (se_var (pv 4)) (se_ca C_read hr (by decide) rfl (fl_cons fl_nil) (sa_cons (se_var (pv 6)) sa_nil)))))))))))) <|
  (sb_one (ss_drop (se_meth T.cs_Shelf C_Shelf_become hr (by decide) (se_var (pv 0)) (fl_cons fl_nil) (sa_cons (se_var (pv 3)) sa_nil))))))
theorem ca_Shelf_load (T : Tx g mg cs) : Cm g P w mg base 24 21 "load" 2 c_Shelf_load :=
  cm_of T.d_Shelf_load sc_Shelf_load fun fa cdv A outer s1 H E hr => sb_Shelf_load T  (ca_is_name T) (ca_read T) (ca_Shelf_become T) hr
theorem sb_Shelf_rows (T : Tx g mg cs) (C_written : Ca g P w mg base 22 "written" 1 c_written) {fa : Addr} {cdv : Value} {A : Around} {outer : List PySem.Env} {s1 : Shared} {H : Hp} {E : XK} (hr : Room 22 (A.deeper (envOfC "Shelf.rows" (defScope (inClass (top 73) 13)) s1.heap.objs.size fa cdv))) :
    SB g E (cxOf (L2N.CX P w) P w g.K mg base ["self", "name"] "Shelf.rows" (defScope (inClass (top 73) 13)) fa cdv A outer s1 H E) (defBody (inClass (top 73) 13)) (b_Shelf_rows) := by
  exact (sb_one (ss_ret (se_lc rfl sc_Shelf_rows.nd (si_iter (sf_sorted rfl rfl T.f_sorted (sa_cons (se_fld T.cs_Shelf (by decide) (se_var (pv 0))) sa_nil))) (own := [("name", 1)]) ⟨rfl, of_decide_eq_true (by kernel_rfl), of_decide_eq_true (by kernel_rfl), of_decide_eq_true (by kernel_rfl), of_decide_eq_true (by kernel_rfl)⟩ (fun _ _ _ _ _ => (sg_name (i := 1) sc_Shelf_rows.nd rfl (.inl rfl))) (fun _ _ _ _ _ => (se_add (se_add (se_var (pv 1)) (se_c pe_str fun _ _ => rfl)) (se_ca C_written hr (by decide) rfl (fl_cons fl_nil) (sa_cons (se_item2 (hu65 hr) (se_fld T.cs_Shelf (by decide) (se_var (pv 0))) (se_var (pv 1))) sa_nil)))) (by decide))))
theorem ca_Shelf_rows (T : Tx g mg cs) : Cm g P w mg base 23 21 "rows" 1 c_Shelf_rows :=
  cm_of T.d_Shelf_rows sc_Shelf_rows fun fa cdv A outer s1 H E hr => sb_Shelf_rows T  (ca_written T) hr
theorem sb_law_rows_bad (T : Tx g mg cs) (TB : ∀ p ∈ cs, LamX.TabB base mg p.1 p.2) (C_Shelf_load : Cm g P w mg base 24 21 "load" 2 c_Shelf_load) (C_Shelf_rows : Cm g P w mg base 23 21 "rows" 1 c_Shelf_rows) {fa : Addr} {A : Around} {outer : List PySem.Env} {s1 : Shared} {H : Hp} {E : XK} (hr : Room 26 (A.deeper (envOfC "_law_rows_bad" (defScope (top 79)) s1.heap.objs.size fa (.ref (cs.getD 0 (0, 0)).1)))) :
    SB g E (cxOf (L2N.CX P w) P w g.K mg base ["_law_shelf", "_law_rows", "_law_bad"] "_law_rows_bad" (defScope (top 79)) fa (.ref (cs.getD 0 (0, 0)).1) A outer s1 H E) (defBody (top 79)) (b_law_rows_bad) := by
  obtain ⟨ga24, fd24, TD24⟩ := told_ok (P := P) (w := w) (base := base) T 24
  exact (sb_cons (ss_for (passes_of rfl) rfl (si_iter (se_lst (sa_cons (se_c pe_non fun _ _ => rfl) (sa_cons (se_tup sa_nil) (sa_cons (se_c pe_str fun _ _ => rfl) (sa_cons (se_lst (sa_cons (se_c pe_non fun _ _ => rfl) sa_nil)) (sa_cons (se_lst (sa_cons (se_c pe_str fun _ _ => rfl) (sa_cons (se_c pe_int fun _ _ => rfl) sa_nil))) sa_nil))))))) (sg_name (i := 2) sc_law_rows_bad.nd rfl (.inr rfl)) (sb_wp (sb_one (ss_if (st_ne (Nat.lt_of_succ_lt (hu65 hr)) (se_told (k := 24) TD24 rfl (TB _ T.cm_law_rows_bad) rfl T.tm_law_rows_bad T.tu_law_rows_bad (hr.mono (by decide)) (LamX.lamS_by (by kernel_rfl)) rfl (fun _ _ _ _ _ => rfl) (fun A outer s H E f c hr2 => (se_meth T.cs_Shelf C_Shelf_load hr2 (by decide) (se_var (pv 0)) (fl_cons fl_nil) (sa_cons (se_var (pv 2)) sa_nil)))) (se_lst (sa_cons (se_c pe_str fun _ _ => rfl) sa_nil))) (sb_one (ss_ret (se_c pe_bl fun _ _ => rfl))) sb_nil)))) <|
  (sb_cons (ss_for (passes_of rfl) rfl (si_iter (se_lst (sa_cons (se_lst (sa_cons (se_c pe_str fun _ _ => rfl) sa_nil)) (sa_cons (se_lst (sa_cons (se_c pe_str fun _ _ => rfl) sa_nil)) (sa_cons (se_lst (sa_cons (se_c pe_str fun _ _ => rfl) sa_nil)) (sa_cons (se_lst (sa_cons (se_c pe_str fun _ _ => rfl) sa_nil)) (sa_cons (se_lst (sa_cons (se_c pe_str fun _ _ => rfl) sa_nil)) (sa_cons (se_lst (sa_cons (se_c pe_str fun _ _ => rfl) (sa_cons (se_c pe_str fun _ _ => rfl) sa_nil))) (sa_cons (se_lst (sa_cons (se_c pe_str fun _ _ => rfl) sa_nil)) (sa_cons (se_add (se_var (pv 1)) (se_lst (sa_cons (se_c pe_str fun _ _ => rfl) sa_nil))) sa_nil)))))))))) (sg_name (i := 2) sc_law_rows_bad.nd rfl (.inr rfl)) (sb_wp (sb_one (ss_if (st_ne (Nat.lt_of_succ_lt (hu65 hr)) (se_told (k := 24) TD24 rfl (TB _ T.cm_law_rows_bad) rfl T.tm_law_rows_bad T.tu_law_rows_bad (hr.mono (by decide)) (LamX.lamS_by (by kernel_rfl)) rfl (fun _ _ _ _ _ => rfl) (fun A outer s H E f c hr2 => (se_meth T.cs_Shelf C_Shelf_load hr2 (by decide) (se_var (pv 0)) (fl_cons fl_nil) (sa_cons (se_var (pv 2)) sa_nil)))) (se_lst (sa_cons (se_c pe_str fun _ _ => rfl) sa_nil))) (sb_one (ss_ret (se_c pe_bl fun _ _ => rfl))) sb_nil)))) <|
  (sb_cons (ss_for (passes_of rfl) rfl (si_iter (se_lst (sa_cons (se_lst (sa_cons (se_c pe_str fun _ _ => rfl) sa_nil)) (sa_cons (se_lst (sa_cons (se_c pe_str fun _ _ => rfl) (sa_cons (se_c pe_str fun _ _ => rfl) sa_nil))) (sa_cons (se_lst (sa_cons (se_c pe_str fun _ _ => rfl) sa_nil)) (sa_cons (se_lst (sa_cons (se_c pe_str fun _ _ => rfl) (sa_cons (se_c pe_str fun _ _ => rfl) sa_nil))) (sa_cons (se_lst (sa_cons (se_c pe_str fun _ _ => rfl) sa_nil)) (sa_cons (se_lst (sa_cons (se_add (se_c pe_str fun _ _ => rfl) (se_mul2 (se_c pe_str fun _ _ => rfl) (se_c pe_int fun _ _ => rfl))) sa_nil)) sa_nil)))))))) (sg_name (i := 2) sc_law_rows_bad.nd rfl (.inr rfl)) (sb_wp (sb_one (ss_if (st_ne (Nat.lt_of_succ_lt (hu65 hr)) (se_told (k := 24) TD24 rfl (TB _ T.cm_law_rows_bad) rfl T.tm_law_rows_bad T.tu_law_rows_bad (hr.mono (by decide)) (LamX.lamS_by (by kernel_rfl)) rfl (fun _ _ _ _ _ => rfl) (fun A outer s H E f c hr2 => (se_meth T.cs_Shelf C_Shelf_load hr2 (by decide) (se_var (pv 0)) (fl_cons fl_nil) (sa_cons (se_var (pv 2)) sa_nil)))) (se_lst (sa_cons (se_c pe_str fun _ _ => rfl) sa_nil))) (sb_one (ss_ret (se_c pe_bl fun _ _ => rfl))) sb_nil)))) <|
  (sb_one (ss_ret (se_eq (Nat.lt_of_succ_lt (hu65 hr)) (se_meth0 T.cs_Shelf C_Shelf_rows hr (by decide) (se_var (pv 0))) (se_var (pv 1))))))))
theorem ca_law_rows_bad (T : Tx g mg cs) (TB : ∀ p ∈ cs, LamX.TabB base mg p.1 p.2) : Ca g P w mg base 27 "_law_rows_bad" 2 c_law_rows_bad :=
  caL_of T.d_law_rows_bad sc_law_rows_bad fun fa A outer s1 H E hr => sb_law_rows_bad T TB (ca_Shelf_load T) (ca_Shelf_rows T) hr
theorem sb_law (T : Tx g mg cs) (TB : ∀ p ∈ cs, LamX.TabB base mg p.1 p.2) (C_law_drawn : Ca g P w mg base 1 "_law_drawn" 2 c_law_drawn) (C_law_cell : Ca g P w mg base 1 "_law_cell" 2 c_law_cell) (C_Shelf_init : Cm g P w mg base 1 21 "__init__" 1 c_Shelf_init) (C_Shelf_keep : Cm g P w mg base 22 21 "keep" 3 c_Shelf_keep) (C_Shelf_forget : Cm g P w mg base 3 21 "forget" 2 c_Shelf_forget) (C_Shelf_call : Cm g P w mg base 3 21 "call" 3 c_Shelf_call) (C_Shelf_template : Cm g P w mg base 3 21 "template" 2 c_Shelf_template) (C_Shelf_walk : Cm g P w mg base 3 21 "walk" 2 c_Shelf_walk) (C_Shelf_row_of : Cm g P w mg base 3 21 "row_of" 2 c_Shelf_row_of) (C_Shelf_undo : Cm g P w mg base 1 21 "undo" 1 c_Shelf_undo) (C_Shelf_names : Cm g P w mg base 1 21 "names" 1 c_Shelf_names) (C_Shelf_starts : Cm g P w mg base 1 21 "starts" 2 c_Shelf_starts) (C_law_rows_bad : Ca g P w mg base 27 "_law_rows_bad" 2 c_law_rows_bad) {fa : Addr} {A : Around} {outer : List PySem.Env} {s1 : Shared} {H : Hp} {E : XK} (hr : Room 29 (A.deeper (envOfC "law" (defScope (top 80)) s1.heap.objs.size fa (.ref (cs.getD 1 (0, 0)).1)))) :
    SB g E (cxOf (L2N.CX P w) P w g.K mg base ["_law_script", "_law_k", "_law_more", "_law_found", "_law_name", "_law_bad", "_law_names", "_law_shelf", "_law_template", "_law_j"] "law" (defScope (top 80)) fa (.ref (cs.getD 1 (0, 0)).1) A outer s1 H E) (defBody (top 80)) (b_law) := by
  obtain ⟨ga27, fd27, TD27⟩ := told_ok (P := P) (w := w) (base := base) T 27
  exact (sb_cons (ss_for (passes_of rfl) rfl (si_range1 rfl T.f_range (sa_cons (sf_max rfl rfl T.f_max (sa_cons (se_c pe_int fun _ _ => rfl) (sa_cons (sf_min rfl rfl T.f_min (sa_cons (se_c pe_int fun _ _ => rfl) (sa_cons (sf_len2 rfl T.f_len (sa_cons (se_var (pv 0)) sa_nil)) sa_nil))) sa_nil))) sa_nil)) (sg_name (i := 1) sc_law.nd rfl (.inl rfl)) (sb_gc (by repeat' (first | refine kp_while ?_ | refine kp_for rfl ?_ | refine kp_forK rfl ?_ | exact kp_drop | exact kp_ret | exact kp_nil | exact kp_dput | exact kp_fld | exact kp_stk | exact kp_raise | exact kp_retN | exact kp_brk | exact kp_cnt | refine kp_seq ?_ ?_ | refine kp_set rfl | refine kp_if ?_ ?_ | refine kp_asg rfl | refine kp_par rfl rfl | refine kp_wp rfl ?_ | refine kp_gc rfl ?_)) (sb_wp (sb_cons (ss_set (i := 2) sc_law.nd rfl (.inr rfl) (se_ca C_law_drawn hr (by decide) rfl (fl_cons (fl_cons fl_nil)) (sa_cons (se_ca C_law_cell hr (by decide) rfl (fl_cons (fl_cons fl_nil)) (sa_cons (se_var (pv 0)) (sa_cons (se_var (pv 1)) sa_nil))) (sa_cons (se_var (pv 1)) sa_nil)))) <|
  (sb_cons (ss_asg (se_tup (sa_cons (se_make0 T.cs_Shelf C_Shelf_init hr (by decide) rfl) (sa_cons (se_tup (sa_cons (se_tup (sa_cons (se_c pe_str fun _ _ => rfl) (sa_cons (se_c pe_str fun _ _ => rfl) sa_nil))) sa_nil)) sa_nil))) (sg_tup rfl (sgs_cons (i := 7) sc_law.nd rfl (.inr rfl) (sgs_cons (i := 8) sc_law.nd rfl (.inr rfl) sgs_nil)))) <|
  (sb_cons (ss_for (passes_of rfl) rfl (si_iter (se_lst (sa_cons (se_c pe_non fun _ _ => rfl) (sa_cons (se_c pe_str fun _ _ => rfl) (sa_cons (se_c pe_str fun _ _ => rfl) (sa_cons (se_c pe_str fun _ _ => rfl) (sa_cons (se_c pe_str fun _ _ => rfl) (sa_cons (se_c pe_int fun _ _ => rfl) (sa_cons (se_tup (sa_cons (se_c pe_str fun _ _ => rfl) sa_nil)) sa_nil))))))))) (sg_name (i := 5) sc_law.nd rfl (.inr rfl)) (sb_gc (by repeat' (first | refine kp_while ?_ | refine kp_for rfl ?_ | refine kp_forK rfl ?_ | exact kp_drop | exact kp_ret | exact kp_nil | exact kp_dput | exact kp_fld | exact kp_stk | exact kp_raise | exact kp_retN | exact kp_brk | exact kp_cnt | refine kp_seq ?_ ?_ | refine kp_set rfl | refine kp_if ?_ ?_ | refine kp_asg rfl | refine kp_par rfl rfl | refine kp_wp rfl ?_ | refine kp_gc rfl ?_)) (sb_wp (sb_pre (sp_gc (by repeat' (first | refine kp_while ?_ | refine kp_for rfl ?_ | refine kp_forK rfl ?_ | exact kp_drop | exact kp_ret | exact kp_nil | exact kp_dput | exact kp_fld | exact kp_stk | exact kp_raise | exact kp_retN | exact kp_brk | exact kp_cnt | refine kp_seq ?_ ?_ | refine kp_set rfl | refine kp_if ?_ ?_ | refine kp_asg rfl | refine kp_par rfl rfl | refine kp_wp rfl ?_ | refine kp_gc rfl ?_)) (sp_cons (ss_set (i := 3) sc_law.nd rfl (.inl rfl) (se_lstM (sa_cons (se_told (k := 27) TD27 rfl (TB _ T.cm_law) rfl T.tm_law T.tu_law (hr.mono (by decide)) (LamX.lamS_by (by kernel_rfl)) rfl (fun _ _ _ _ _ => rfl) (fun A outer s H E f c hr2 => (se_meth T.cs_Shelf C_Shelf_keep hr2 (by decide) (se_var (pv 7)) (fl_cons (fl_cons fl_nil)) (sa_cons (se_var (pv 5)) (sa_cons (se_c pe_non fun _ _ => rfl) sa_nil))))) sa_nil))) <|
  (sp_cons (ss_drop (sm1_append (se_var (pv 3)) (sa_cons (se_told (k := 27) TD27 rfl (TB _ T.cm_law) rfl T.tm_law T.tu_law (hr.mono (by decide)) (LamX.lamS_by (by kernel_rfl)) rfl (fun _ _ _ _ _ => rfl) (fun A outer s H E f c hr2 => (se_meth T.cs_Shelf C_Shelf_forget hr2 (by decide) (se_var (pv 7)) (fl_cons fl_nil) (sa_cons (se_var (pv 5)) sa_nil)))) sa_nil))) <|
  (sp_cons (ss_drop (sm1_append (se_var (pv 3)) (sa_cons (se_told (k := 27) TD27 rfl (TB _ T.cm_law) rfl T.tm_law T.tu_law (hr.mono (by decide)) (LamX.lamS_by (by kernel_rfl)) rfl (fun _ _ _ _ _ => rfl) (fun A outer s H E f c hr2 => (se_meth T.cs_Shelf C_Shelf_call hr2 (by decide) (se_var (pv 7)) (fl_cons (fl_cons fl_nil)) (sa_cons (se_var (pv 5)) (sa_cons (se_c pe_non fun _ _ => rfl) sa_nil))))) sa_nil))) <|
  (sp_cons (ss_drop (sm1_append (se_var (pv 3)) (sa_cons (se_told (k := 27) TD27 rfl (TB _ T.cm_law) rfl T.tm_law T.tu_law (hr.mono (by decide)) (LamX.lamS_by (by kernel_rfl)) rfl (fun _ _ _ _ _ => rfl) (fun A outer s H E f c hr2 => (se_meth T.cs_Shelf C_Shelf_template hr2 (by decide) (se_var (pv 7)) (fl_cons fl_nil) (sa_cons (se_var (pv 5)) sa_nil)))) sa_nil))) <|
  (sp_cons (ss_drop (sm1_append (se_var (pv 3)) (sa_cons (se_told (k := 27) TD27 rfl (TB _ T.cm_law) rfl T.tm_law T.tu_law (hr.mono (by decide)) (LamX.lamS_by (by kernel_rfl)) rfl (fun _ _ _ _ _ => rfl) (fun A outer s H E f c hr2 => (se_meth T.cs_Shelf C_Shelf_walk hr2 (by decide) (se_var (pv 7)) (fl_cons fl_nil) (sa_cons (se_var (pv 5)) sa_nil)))) sa_nil))) <|
  (sp_one (ss_drop (sm1_append (se_var (pv 3)) (sa_cons (se_told (k := 27) TD27 rfl (TB _ T.cm_law) rfl T.tm_law T.tu_law (hr.mono (by decide)) (LamX.lamS_by (by kernel_rfl)) rfl (fun _ _ _ _ _ => rfl) (fun A outer s H E f c hr2 => (se_meth T.cs_Shelf C_Shelf_row_of hr2 (by decide) (se_var (pv 7)) (fl_cons fl_nil) (sa_cons (se_lst (sa_cons (se_var (pv 5)) sa_nil)) sa_nil)))) sa_nil)))))))))) <|
  (sb_one (ss_if (st_ne (Nat.lt_of_succ_lt (hu65 hr)) (se_var (pv 3)) (se_mul2 (se_lst (sa_cons (se_lst (sa_cons (se_c pe_str fun _ _ => rfl) sa_nil)) sa_nil)) (se_c pe_int fun _ _ => rfl))) (sb_one (ss_ret (se_c pe_bl fun _ _ => rfl))) sb_nil)))))) <|
  (sb_cons (ss_for (passes_of rfl) rfl (si_iter (se_lst (sa_cons (se_c pe_non fun _ _ => rfl) (sa_cons (se_lst sa_nil) (sa_cons (se_tup (sa_cons (se_tup (sa_cons (se_c pe_str fun _ _ => rfl) (sa_cons (se_c pe_str fun _ _ => rfl) sa_nil))) sa_nil)) (sa_cons (se_tup (sa_cons (se_tup (sa_cons (se_c pe_str fun _ _ => rfl) (sa_cons (se_mul2 (se_c pe_str fun _ _ => rfl) (se_c pe_int fun _ _ => rfl)) sa_nil))) sa_nil)) (sa_cons (se_tup (sa_cons (se_tup (sa_cons (se_c pe_str fun _ _ => rfl) (sa_cons (se_c pe_int fun _ _ => rfl) sa_nil))) sa_nil)) (sa_cons (se_tup (sa_cons (se_tup (sa_cons (se_c pe_str fun _ _ => rfl) (sa_cons (se_c pe_int fun _ _ => rfl) (sa_cons (se_c pe_str fun _ _ => rfl) sa_nil)))) sa_nil)) (sa_cons (se_c pe_str fun _ _ => rfl) sa_nil))))))))) (sg_name (i := 5) sc_law.nd rfl (.inr rfl)) (sb_wp (sb_one (ss_if (st_ne (Nat.lt_of_succ_lt (hu65 hr)) (se_told (k := 27) TD27 rfl (TB _ T.cm_law) rfl T.tm_law T.tu_law (hr.mono (by decide)) (LamX.lamS_by (by kernel_rfl)) rfl (fun _ _ _ _ _ => rfl) (fun A outer s H E f c hr2 => (se_meth T.cs_Shelf C_Shelf_keep hr2 (by decide) (se_var (pv 7)) (fl_cons (fl_cons fl_nil)) (sa_cons (se_c pe_str fun _ _ => rfl) (sa_cons (se_var (pv 5)) sa_nil))))) (se_lst (sa_cons (se_c pe_str fun _ _ => rfl) sa_nil))) (sb_one (ss_ret (se_c pe_bl fun _ _ => rfl))) sb_nil)))) <|
  (sb_cons (ss_if (SW.st (sw_or (st_ne (Nat.lt_of_succ_lt (hu65 hr)) (se_told (k := 27) TD27 rfl (TB _ T.cm_law) rfl T.tm_law T.tu_law (hr.mono (by decide)) (LamX.lamS_by (by kernel_rfl)) rfl (fun _ _ _ _ _ => rfl) (fun A outer s H E f c hr2 => (se_meth0 T.cs_Shelf C_Shelf_undo hr2 (by decide) (se_var (pv 7))))) (se_lst (sa_cons (se_c pe_str fun _ _ => rfl) sa_nil))) (sw_or1 (st_ne (Nat.lt_of_succ_lt (hu65 hr)) (se_meth0 T.cs_Shelf C_Shelf_names hr (by decide) (se_var (pv 7))) (se_lst sa_nil))))) (sb_one (ss_ret (se_c pe_bl fun _ _ => rfl))) sb_nil) <|
  (sb_cons (ss_set (i := 6) sc_law.nd rfl (.inr rfl) (se_lc rfl sc_law.nd (si_range1 rfl T.f_range (sa_cons (se_c pe_int fun _ _ => rfl) sa_nil)) (own := [("_law_j", 9)]) ⟨rfl, of_decide_eq_true (by kernel_rfl), of_decide_eq_true (by kernel_rfl), of_decide_eq_true (by kernel_rfl), of_decide_eq_true (by kernel_rfl)⟩ (fun _ _ _ _ _ => (sg_name (i := 9) sc_law.nd rfl (.inl rfl))) (fun _ _ _ _ _ => (se_add (se_slice (se_c pe_str fun _ _ => rfl) (so_some (se_var (pv 9))) (so_some (se_add (se_add (se_var (pv 9)) (se_c pe_int fun _ _ => rfl)) (se_mod (se_var (pv 2)) (se_c pe_int fun _ _ => rfl))))) (se_c pe_str fun _ _ => rfl))) (by decide))) <|
  (sb_cons (ss_for (passes_of rfl) rfl (si_iter (se_var (pv 6))) (sg_name (i := 4) sc_law.nd rfl (.inl rfl)) (sb_wp (sb_one (ss_drop (se_meth T.cs_Shelf C_Shelf_keep hr (by decide) (se_var (pv 7)) (fl_cons (fl_cons fl_nil)) (sa_cons (se_var (pv 4)) (sa_cons (se_var (pv 8)) sa_nil))))))) <|
  (sb_cons (ss_for (passes_of rfl) rfl (si_iter (se_lst (sa_cons (se_c pe_str fun _ _ => rfl) (sa_cons (se_c pe_str fun _ _ => rfl) sa_nil)))) (sg_name (i := 5) sc_law.nd rfl (.inr rfl)) (sb_wp (sb_one (ss_if (st_ne (Nat.lt_of_succ_lt (hu65 hr)) (se_told (k := 27) TD27 rfl (TB _ T.cm_law) rfl T.tm_law T.tu_law (hr.mono (by decide)) (LamX.lamS_by (by kernel_rfl)) rfl (fun _ _ _ _ _ => rfl) (fun A outer s H E f c hr2 => (se_meth T.cs_Shelf C_Shelf_keep hr2 (by decide) (se_var (pv 7)) (fl_cons (fl_cons fl_nil)) (sa_cons (se_var (pv 5)) (sa_cons (se_var (pv 8)) sa_nil))))) (se_lst (sa_cons (se_c pe_str fun _ _ => rfl) sa_nil))) (sb_one (ss_ret (se_c pe_bl fun _ _ => rfl))) sb_nil)))) <|
  (sb_cons (ss_drop (se_meth T.cs_Shelf C_Shelf_keep hr (by decide) (se_var (pv 7)) (fl_cons (fl_cons fl_nil)) (sa_cons (se_item2 (hu65 hr) (se_var (pv 6)) (se_c pe_int fun _ _ => rfl)) (sa_cons (se_var (pv 8)) sa_nil)))) <|
  (sb_cons (ss_for (passes_of rfl) rfl (si_iter (se_lst (sa_cons (se_item2 (hu65 hr) (se_var (pv 6)) (se_c pe_int fun _ _ => rfl)) (sa_cons (se_item2 (hu65 hr) (se_var (pv 6)) (se_c pe_int fun _ _ => rfl)) (sa_cons (se_c pe_str fun _ _ => rfl) (sa_cons (se_c pe_non fun _ _ => rfl) sa_nil)))))) (sg_name (i := 5) sc_law.nd rfl (.inr rfl)) (sb_wp (sb_one (ss_if (st_ne (Nat.lt_of_succ_lt (hu65 hr)) (se_told (k := 27) TD27 rfl (TB _ T.cm_law) rfl T.tm_law T.tu_law (hr.mono (by decide)) (LamX.lamS_by (by kernel_rfl)) rfl (fun _ _ _ _ _ => rfl) (fun A outer s H E f c hr2 => (se_meth T.cs_Shelf C_Shelf_call hr2 (by decide) (se_var (pv 7)) (fl_cons (fl_cons fl_nil)) (sa_cons (se_item2 (hu65 hr2) (se_var (pv 6)) (se_c pe_int fun _ _ => rfl)) (sa_cons (se_var (pv 5)) sa_nil))))) (se_lst (sa_cons (se_c pe_str fun _ _ => rfl) sa_nil))) (sb_one (ss_ret (se_c pe_bl fun _ _ => rfl))) sb_nil)))) <|
  (sb_cons (ss_for (passes_of rfl) rfl (si_iter (se_lst (sa_cons (se_c pe_non fun _ _ => rfl) (sa_cons (se_tup sa_nil) (sa_cons (se_lst sa_nil) (sa_cons (sf_tuple rfl T.f_tuple (sa_cons (se_var (pv 6)) sa_nil)) (sa_cons (se_add (se_var (pv 6)) (se_lst (sa_cons (se_c pe_str fun _ _ => rfl) sa_nil))) sa_nil))))))) (sg_name (i := 5) sc_law.nd rfl (.inr rfl)) (sb_wp (sb_one (ss_if (st_ne (Nat.lt_of_succ_lt (hu65 hr)) (se_told (k := 27) TD27 rfl (TB _ T.cm_law) rfl T.tm_law T.tu_law (hr.mono (by decide)) (LamX.lamS_by (by kernel_rfl)) rfl (fun _ _ _ _ _ => rfl) (fun A outer s H E f c hr2 => (se_meth T.cs_Shelf C_Shelf_row_of hr2 (by decide) (se_var (pv 7)) (fl_cons fl_nil) (sa_cons (se_var (pv 5)) sa_nil)))) (se_lst (sa_cons (se_c pe_str fun _ _ => rfl) sa_nil))) (sb_one (ss_ret (se_c pe_bl fun _ _ => rfl))) sb_nil)))) <|
  (sb_cons (ss_for (passes_of rfl) rfl (si_iter (se_lst (sa_cons (se_c pe_non fun _ _ => rfl) (sa_cons (se_c pe_int fun _ _ => rfl) (sa_cons (se_lst (sa_cons (se_c pe_str fun _ _ => rfl) sa_nil)) sa_nil))))) (sg_name (i := 5) sc_law.nd rfl (.inr rfl)) (sb_wp (sb_one (ss_if (st_ne (Nat.lt_of_succ_lt (hu65 hr)) (se_told (k := 27) TD27 rfl (TB _ T.cm_law) rfl T.tm_law T.tu_law (hr.mono (by decide)) (LamX.lamS_by (by kernel_rfl)) rfl (fun _ _ _ _ _ => rfl) (fun A outer s H E f c hr2 => (se_meth T.cs_Shelf C_Shelf_starts hr2 (by decide) (se_var (pv 7)) (fl_cons fl_nil) (sa_cons (se_var (pv 5)) sa_nil)))) (se_lst (sa_cons (se_c pe_str fun _ _ => rfl) sa_nil))) (sb_one (ss_ret (se_c pe_bl fun _ _ => rfl))) sb_nil)))) <|
  (sb_one (ss_if (st_not (st_val (se_ca C_law_rows_bad hr (by decide) rfl (fl_cons (fl_cons fl_nil)) (sa_cons (se_var (pv 7)) (sa_cons (sf_sorted rfl rfl T.f_sorted (sa_cons (se_lc rfl sc_law.nd (si_iter (se_var (pv 6))) (own := [("_law_name", 4)]) ⟨rfl, of_decide_eq_true (by kernel_rfl), of_decide_eq_true (by kernel_rfl), of_decide_eq_true (by kernel_rfl), of_decide_eq_true (by kernel_rfl)⟩ (fun _ _ _ _ _ => (sg_name (i := 4) sc_law.nd rfl (.inl rfl))) (fun _ _ _ _ _ => (se_add (se_var (pv 4)) (se_c pe_str fun _ _ => rfl))) (by decide)) sa_nil)) sa_nil))))) (sb_one (ss_ret (se_c pe_bl fun _ _ => rfl))) sb_nil))))))))))))))))) <|
  (sb_one (ss_ret (se_c pe_bl fun _ _ => rfl))))
theorem law_ok (T : Tx g mg cs) : LawOk g P w mg cs 30 "law" "_law_script" c_law :=
  lawL_of T.d_law sc_law fun base TB fa A outer s1 H E hr => sb_law T TB (ca_law_drawn T) (ca_law_cell T) (ca_Shelf_init T) (ca_Shelf_keep T) (ca_Shelf_forget T) (ca_Shelf_call T) (ca_Shelf_template T) (ca_Shelf_walk T) (ca_Shelf_row_of T) (ca_Shelf_undo T) (ca_Shelf_names T) (ca_Shelf_starts T) (ca_law_rows_bad T TB) hr
end
def names0 : List PySem.Str := ["_wall", "__name__", "HoleError", "BadTemplate", "BadText", "BadNumber", "BadPlace", "NoHole", "NoChoice", "TooLong", "Over", "Nothing", "BadName", "SMALL_templates", "GREAT", "FIGURES", "OTHERS", "TURNS", "MOST_TEXT", "MOST_PARTS", "MOST_DEEP", "MOST_OPTIONS", "MOST_HOLE", "is_count", "is_text", "are_options", "is_part", "are_parts", "all_parts", "homes_in"]
def names1 : List PySem.Str := ["leads_of", "goes_round", "is_template", "need_template", "with_numbers", "tidy", "joined", "part_text", "written", "parts_from", "hole_from", "read", "MOST_LONG", "great_sign", "small_sign", "turned_text", "grown", "nodes_of", "home_of", "node_text", "tree_text", "spans_in", "with_content", "paths_in", "plain_sames", "neat", "settled", "need_short", "stop_key", "stops_in"]
def names2 : List PySem.Str := ["MOST_PATH", "Walk", "SMALL_shelves", "MOST_NAME", "MOST_NAMES", "is_name", "Shelf", "_law_cell", "_law_drawn", "_law_word", "_law_told", "_law_rows_bad"]
def names : List PySem.Str := names0 ++ names1 ++ names2
def fn0 : List He.DefD := [⟨("_law_drawn", none), "_law_drawn", "_law_drawn", defArgs (top 76), defBody (top 76), defScope (top 76), [], []⟩, ⟨("_law_cell", none), "_law_cell", "_law_cell", defArgs (top 75), defBody (top 75), defScope (top 75), [], []⟩, ⟨("Shelf", some "__init__"), "__init__", "Shelf.__init__", defArgs (inClass (top 73) 0), defBody (inClass (top 73) 0), defScope (inClass (top 73) 0), [], []⟩, ⟨("is_name", none), "is_name", "is_name", defArgs (top 72), defBody (top 72), defScope (top 72), [], []⟩, ⟨("is_text", none), "is_text", "is_text", defArgs (top 25), defBody (top 25), defScope (top 25), [], []⟩, ⟨("is_count", none), "is_count", "is_count", defArgs (top 24), defBody (top 24), defScope (top 24), [], []⟩, ⟨("are_options", none), "are_options", "are_options", defArgs (top 26), defBody (top 26), defScope (top 26), [], []⟩, ⟨("are_parts", none), "are_parts", "are_parts", defArgs (top 28), defBody (top 28), defScope (top 28), [], []⟩, ⟨("is_part", none), "is_part", "is_part", defArgs (top 27), defBody (top 27), defScope (top 27), [], []⟩, ⟨("all_parts", none), "all_parts", "all_parts", defArgs (top 29), defBody (top 29), defScope (top 29), [], []⟩, ⟨("homes_in", none), "homes_in", "homes_in", defArgs (top 30), defBody (top 30), defScope (top 30), [], []⟩, ⟨("goes_round", none), "goes_round", "goes_round", defArgs (top 32), defBody (top 32), defScope (top 32), [], []⟩, ⟨("leads_of", none), "leads_of", "leads_of", defArgs (top 31), defBody (top 31), defScope (top 31), [], []⟩, ⟨("is_template", none), "is_template", "is_template", defArgs (top 33), defBody (top 33), defScope (top 33), [], []⟩, ⟨("need_template", none), "need_template", "need_template", defArgs (top 34), defBody (top 34), defScope (top 34), [], []⟩, ⟨("Shelf", some "become"), "become", "Shelf.become", defArgs (inClass (top 73) 1), defBody (inClass (top 73) 1), defScope (inClass (top 73) 1), [], []⟩, ⟨("Shelf", some "keep"), "keep", "Shelf.keep", defArgs (inClass (top 73) 3), defBody (inClass (top 73) 3), defScope (inClass (top 73) 3), [], []⟩, ⟨("Shelf", some "need_there"), "need_there", "Shelf.need_there", defArgs (inClass (top 73) 2), defBody (inClass (top 73) 2), defScope (inClass (top 73) 2), [], []⟩, ⟨("Shelf", some "forget"), "forget", "Shelf.forget", defArgs (inClass (top 73) 4), defBody (inClass (top 73) 4), defScope (inClass (top 73) 4), [], []⟩, ⟨("Shelf", some "call"), "call", "Shelf.call", defArgs (inClass (top 73) 5), defBody (inClass (top 73) 5), defScope (inClass (top 73) 5), [], []⟩, ⟨("Shelf", some "template"), "template", "Shelf.template", defArgs (inClass (top 73) 9), defBody (inClass (top 73) 9), defScope (inClass (top 73) 9), [], []⟩, ⟨("Shelf", some "walk"), "walk", "Shelf.walk", defArgs (inClass (top 73) 12), defBody (inClass (top 73) 12), defScope (inClass (top 73) 12), [], []⟩, ⟨("Shelf", some "row_of"), "row_of", "Shelf.row_of", defArgs (inClass (top 73) 11), defBody (inClass (top 73) 11), defScope (inClass (top 73) 11), [], []⟩, ⟨("Shelf", some "undo"), "undo", "Shelf.undo", defArgs (inClass (top 73) 6), defBody (inClass (top 73) 6), defScope (inClass (top 73) 6), [], []⟩, ⟨("Shelf", some "names"), "names", "Shelf.names", defArgs (inClass (top 73) 8), defBody (inClass (top 73) 8), defScope (inClass (top 73) 8), [], []⟩, ⟨("Shelf", some "starts"), "starts", "Shelf.starts", defArgs (inClass (top 73) 10), defBody (inClass (top 73) 10), defScope (inClass (top 73) 10), [], []⟩, ⟨("parts_from", none), "parts_from", "parts_from", defArgs (top 41), defBody (top 41), defScope (top 41), [], []⟩, ⟨("hole_from", none), "hole_from", "hole_from", defArgs (top 42), defBody (top 42), defScope (top 42), [], []⟩, ⟨("part_text", none), "part_text", "part_text", defArgs (top 39), defBody (top 39), defScope (top 39), [], []⟩, ⟨("written", none), "written", "written", defArgs (top 40), defBody (top 40), defScope (top 40), [], []⟩]
def fn1 : List He.DefD := [⟨("read", none), "read", "read", defArgs (top 43), defBody (top 43), defScope (top 43), [], []⟩, ⟨("Shelf", some "load"), "load", "Shelf.load", defArgs (inClass (top 73) 14), defBody (inClass (top 73) 14), defScope (inClass (top 73) 14), [], []⟩, ⟨("Shelf", some "rows"), "rows", "Shelf.rows", defArgs (inClass (top 73) 13), defBody (inClass (top 73) 13), defScope (inClass (top 73) 13), [], []⟩, ⟨("_law_rows_bad", none), "_law_rows_bad", "_law_rows_bad", defArgs (top 79), defBody (top 79), defScope (top 79), [], []⟩, ⟨("law", none), "law", "law", defArgs (top 80), defBody (top 80), defScope (top 80), [], []⟩, ⟨("_law_word", none), "_law_word", "_law_word", defArgs (top 77), defBody (top 77), defScope (top 77), [], []⟩, ⟨("_law_told", none), "_law_told", "_law_told", defArgs (top 78), defBody (top 78), defScope (top 78), [], []⟩]
def fn : List He.DefD := fn0 ++ fn1
def fa0 : List He.Fa := [.glo "_law_drawn", .glo "_law_cell", .meth "Shelf" "__init__", .glo "is_name", .glo "is_text", .glo "is_count", .glo "are_options", .glo "are_parts", .glo "is_part", .glo "all_parts", .glo "homes_in", .glo "goes_round", .glo "leads_of", .glo "is_template", .glo "need_template", .meth "Shelf" "become", .meth "Shelf" "keep", .meth "Shelf" "need_there", .meth "Shelf" "forget", .meth "Shelf" "call", .meth "Shelf" "template", .meth "Shelf" "walk", .meth "Shelf" "row_of", .meth "Shelf" "undo", .meth "Shelf" "names", .meth "Shelf" "starts", .glo "parts_from", .glo "hole_from", .glo "part_text", .glo "written"]
def fa1 : List He.Fa := [.glo "read", .meth "Shelf" "load", .meth "Shelf" "rows", .glo "_law_rows_bad", .glo "law", .glo "_law_word", .glo "_law_told", .free "len", .free "isinstance", .free "str", .free "all", .free "int", .free "bool", .free "tuple", .free "set", .free "zip", .free "any", .free "list", .free "dict", .free "sorted", .free "range", .free "min", .free "max", .free "sum", .free "ValueError", .glo "BadTemplate", .glo "BadText", .glo "BadNumber", .glo "BadPlace", .glo "NoHole"]
def fa2 : List He.Fa := [.glo "NoChoice", .glo "TooLong", .glo "Over", .glo "Nothing", .glo "BadName", .glo "HoleError", .glo "Shelf", .cls "Shelf", .mkr "Shelf", .noat "Shelf" "kept", .noat "Shelf" "past", .noat "Shelf" "ahead", .int "MOST_NAME" 8, .str "SMALL_shelves" "abcdefghijklmnopqrstuvwxyz", .str "SMALL_templates" "abcdefghijklmnopqrstuvwxyz", .str "GREAT" "ABCDEFGHIJKLMNOPQRSTUVWXYZ", .str "FIGURES" "0123456789", .str "OTHERS" " _-.,;()=+*", .int "MOST_OPTIONS" 4, .int "MOST_TEXT" 12, .int "MOST_HOLE" 9, .int "MOST_DEEP" 3, .int "MOST_PARTS" 12, .int "MOST_NAMES" 12]
def fa : List He.Fa := fa0 ++ fa1 ++ fa2
def tf : List He.Defn := [("_law_rows_bad", none), ("law", none)]
def exs (K : PySem.W.Frag) : List Bool := [noLists K, nodupB (tf.map fun p => (He.cT K p).2), excAll K [He.ga K "BadTemplate", He.ga K "BadText", He.ga K "BadNumber", He.ga K "BadPlace", He.ga K "NoHole", He.ga K "NoChoice", He.ga K "TooLong", He.ga K "Over", He.ga K "Nothing", He.ga K "BadName"], excCs K [He.ga K "BadTemplate", He.ga K "BadText", He.ga K "BadNumber", He.ga K "BadPlace", He.ga K "NoHole", He.ga K "NoChoice", He.ga K "TooLong", He.ga K "Over", He.ga K "Nothing", He.ga K "BadName"], excHole K (He.ga K "HoleError") [He.ga K "BadTemplate", He.ga K "BadText", He.ga K "BadNumber", He.ga K "BadPlace", He.ga K "NoHole", He.ga K "NoChoice", He.ga K "TooLong", He.ga K "Over", He.ga K "Nothing", He.ga K "BadName"], tupOkB K "TURNS" ["same", "up", "low", "head", "words"]]
def ex (K : PySem.W.Frag) : Bool := (exs K).all id
def gK (K : PySem.W.Frag) : G := ⟨K, fun c => if c = 20 then He.ga K "Walk" else if c = 21 then He.ga K "Shelf" else ([He.ga K "BadTemplate", He.ga K "BadText", He.ga K "BadNumber", He.ga K "BadPlace", He.ga K "NoHole", He.ga K "NoChoice", He.ga K "TooLong", He.ga K "Over", He.ga K "Nothing", He.ga K "BadName"] : List Addr).getD c 0, fun _ => 0, [((He.cT K ("_law_rows_bad", none)).2, (envOfC "_law_rows_bad" (defScope (top 79)) 0 0 .none).qual ++ "<lambda>"), ((He.cT K ("law", none)).2, (envOfC "law" (defScope (top 80)) 0 0 .none).qual ++ "<lambda>")]⟩
abbrev Rw : PySem.W.OpenRow := PySem.W.OpenLaw.row PySem.Challenge.rw_holewalks_k82_shelves_refused
abbrev hk : PySem.W.Hook := He.hookX 5 fa fn [] tf ex
def ob (s : PySem.W.SharedT) : He.AlX := He.obsX 5 fa fn [] tf ex (HandSHeadRun.getT s)
theorem ob_eq (s : PySem.W.SharedT) : ob s = hk.obs s.abs := He.obsX_eq (HandSHeadRun.getT_eq s)
theorem run (w : World) : HandSHeadRun.RunEq Rw (PySem.W.view Rw.prog [80]) hk ob 20000 names w := by
  intro os
  kernel_rfl
theorem txt {w : World} {K : PySem.W.Frag} {h : Heap} {mg : Str → Option Value} (X : K.In h) (G : h.Ns mainGlobals mg) (c : He.SaysX fa fn [] tf ex w h K) : Tx (gK K) mg (tf.map (He.cT K)) := by
  have C := c.t.d
  have ft : ∀ (i : Nat) {f : He.Fa}, fa[i]? = some f → f.ok K = true := fun i f h => C.fact i h
  have xt : ∀ (i : Nat) {b : Bool}, (exs K)[i]? = some b → b = true := fun i b h => List.all_eq_true.mp (show (exs K).all id = true from c.more) b (List.mem_of_getElem? h)
  obtain ⟨fd0, F0⟩ := C.def_ 0 rfl
  obtain ⟨fd1, F1⟩ := C.def_ 1 rfl
  obtain ⟨fd2, F2⟩ := C.def_ 2 rfl
  obtain ⟨fd3, F3⟩ := C.def_ 3 rfl
  obtain ⟨fd4, F4⟩ := C.def_ 4 rfl
  obtain ⟨fd5, F5⟩ := C.def_ 5 rfl
  obtain ⟨fd6, F6⟩ := C.def_ 6 rfl
  obtain ⟨fd7, F7⟩ := C.def_ 7 rfl
  obtain ⟨fd8, F8⟩ := C.def_ 8 rfl
  obtain ⟨fd9, F9⟩ := C.def_ 9 rfl
  obtain ⟨fd10, F10⟩ := C.def_ 10 rfl
  obtain ⟨fd11, F11⟩ := C.def_ 11 rfl
  obtain ⟨fd12, F12⟩ := C.def_ 12 rfl
  obtain ⟨fd13, F13⟩ := C.def_ 13 rfl
  obtain ⟨fd14, F14⟩ := C.def_ 14 rfl
  obtain ⟨fd15, F15⟩ := C.def_ 15 rfl
  obtain ⟨fd16, F16⟩ := C.def_ 16 rfl
  obtain ⟨fd17, F17⟩ := C.def_ 17 rfl
  obtain ⟨fd18, F18⟩ := C.def_ 18 rfl
  obtain ⟨fd19, F19⟩ := C.def_ 19 rfl
  obtain ⟨fd20, F20⟩ := C.def_ 20 rfl
  obtain ⟨fd21, F21⟩ := C.def_ 21 rfl
  obtain ⟨fd22, F22⟩ := C.def_ 22 rfl
  obtain ⟨fd23, F23⟩ := C.def_ 23 rfl
  obtain ⟨fd24, F24⟩ := C.def_ 24 rfl
  obtain ⟨fd25, F25⟩ := C.def_ 25 rfl
  obtain ⟨fd26, F26⟩ := C.def_ 26 rfl
  obtain ⟨fd27, F27⟩ := C.def_ 27 rfl
  obtain ⟨fd28, F28⟩ := C.def_ 28 rfl
  obtain ⟨fd29, F29⟩ := C.def_ 29 rfl
  obtain ⟨fd30, F30⟩ := C.def_ 30 rfl
  obtain ⟨fd31, F31⟩ := C.def_ 31 rfl
  obtain ⟨fd32, F32⟩ := C.def_ 32 rfl
  obtain ⟨fd33, F33⟩ := C.def_ 33 rfl
  obtain ⟨fd34, F34⟩ := C.def_ 34 rfl
  obtain ⟨fd35, F35⟩ := C.def_ 35 rfl
  obtain ⟨fd36, F36⟩ := C.def_ 36 rfl
  exact {
      d_law_drawn := df_fund X G F0 (ft 0 rfl) (fun _ _ _ _ _ _ us hl => match us, hl with | [_, _], _ => rfl),
      d_law_cell := df_fund X G F1 (ft 1 rfl) (fun _ _ _ _ _ _ us hl => match us, hl with | [_, _], _ => rfl),
      d_Shelf_init := dm_fund F2 (ft 2 rfl) (fun _ _ _ _ _ _ us hl => match us, hl with | [_], _ => rfl),
      d_is_name := df_fund X G F3 (ft 3 rfl) (fun _ _ _ _ _ _ us hl => match us, hl with | [_], _ => rfl),
      d_is_text := df_fund X G F4 (ft 4 rfl) (fun _ _ _ _ _ _ us hl => match us, hl with | [_, _, _], _ => rfl),
      d_is_count := df_fund X G F5 (ft 5 rfl) (fun _ _ _ _ _ _ us hl => match us, hl with | [_, _, _], _ => rfl),
      d_are_options := df_fund X G F6 (ft 6 rfl) (fun _ _ _ _ _ _ us hl => match us, hl with | [_], _ => rfl),
      d_are_parts := df_fund X G F7 (ft 7 rfl) (fun _ _ _ _ _ _ us hl => match us, hl with | [_, _], _ => rfl),
      d_is_part := df_fund X G F8 (ft 8 rfl) (fun _ _ _ _ _ _ us hl => match us, hl with | [_, _], _ => rfl),
      d_all_parts := df_fund X G F9 (ft 9 rfl) (fun _ _ _ _ _ _ us hl => match us, hl with | [_], _ => rfl),
      d_homes_in := df_fund X G F10 (ft 10 rfl) (fun _ _ _ _ _ _ us hl => match us, hl with | [_], _ => rfl),
      d_goes_round := df_fund X G F11 (ft 11 rfl) (fun _ _ _ _ _ _ us hl => match us, hl with | [_], _ => rfl),
      d_leads_of := df_fund X G F12 (ft 12 rfl) (fun _ _ _ _ _ _ us hl => match us, hl with | [_], _ => rfl),
      d_is_template := df_fund X G F13 (ft 13 rfl) (fun _ _ _ _ _ _ us hl => match us, hl with | [_], _ => rfl),
      d_need_template := df_fund X G F14 (ft 14 rfl) (fun _ _ _ _ _ _ us hl => match us, hl with | [_], _ => rfl),
      d_Shelf_become := dm_fund F15 (ft 15 rfl) (fun _ _ _ _ _ _ us hl => match us, hl with | [_, _], _ => rfl),
      d_Shelf_keep := dm_fund F16 (ft 16 rfl) (fun _ _ _ _ _ _ us hl => match us, hl with | [_, _, _], _ => rfl),
      d_Shelf_need_there := dm_fund F17 (ft 17 rfl) (fun _ _ _ _ _ _ us hl => match us, hl with | [_, _], _ => rfl),
      d_Shelf_forget := dm_fund F18 (ft 18 rfl) (fun _ _ _ _ _ _ us hl => match us, hl with | [_, _], _ => rfl),
      d_Shelf_call := dm_fund F19 (ft 19 rfl) (fun _ _ _ _ _ _ us hl => match us, hl with | [_, _, _], _ => rfl),
      d_Shelf_template := dm_fund F20 (ft 20 rfl) (fun _ _ _ _ _ _ us hl => match us, hl with | [_, _], _ => rfl),
      d_Shelf_walk := dm_fund F21 (ft 21 rfl) (fun _ _ _ _ _ _ us hl => match us, hl with | [_, _], _ => rfl),
      d_Shelf_row_of := dm_fund F22 (ft 22 rfl) (fun _ _ _ _ _ _ us hl => match us, hl with | [_, _], _ => rfl),
      d_Shelf_undo := dm_fund F23 (ft 23 rfl) (fun _ _ _ _ _ _ us hl => match us, hl with | [_], _ => rfl),
      d_Shelf_names := dm_fund F24 (ft 24 rfl) (fun _ _ _ _ _ _ us hl => match us, hl with | [_], _ => rfl),
      d_Shelf_starts := dm_fund F25 (ft 25 rfl) (fun _ _ _ _ _ _ us hl => match us, hl with | [_, _], _ => rfl),
      d_parts_from := df_fund X G F26 (ft 26 rfl) (fun _ _ _ _ _ _ us hl => match us, hl with | [_, _, _], _ => rfl),
      d_hole_from := df_fund X G F27 (ft 27 rfl) (fun _ _ _ _ _ _ us hl => match us, hl with | [_, _, _], _ => rfl),
      d_part_text := df_fund X G F28 (ft 28 rfl) (fun _ _ _ _ _ _ us hl => match us, hl with | [_], _ => rfl),
      d_written := df_fund X G F29 (ft 29 rfl) (fun _ _ _ _ _ _ us hl => match us, hl with | [_], _ => rfl),
      d_read := df_fund X G F30 (ft 30 rfl) (fun _ _ _ _ _ _ us hl => match us, hl with | [_], _ => rfl),
      d_Shelf_load := dm_fund F31 (ft 31 rfl) (fun _ _ _ _ _ _ us hl => match us, hl with | [_, _], _ => rfl),
      d_Shelf_rows := dm_fund F32 (ft 32 rfl) (fun _ _ _ _ _ _ us hl => match us, hl with | [_], _ => rfl),
      d_law_rows_bad := dfL_fund X G F33 (ft 33 rfl) (fun _ _ _ _ _ _ us hl => match us, hl with | [_, _], _ => rfl),
      d_law := dfL_fund X G F34 (ft 34 rfl) (fun _ _ _ _ _ _ us hl => match us, hl with | [_], _ => rfl),
      d_law_word := df_fund X G F35 (ft 35 rfl) (fun _ _ _ _ _ _ us hl => match us, hl with | [_], _ => rfl),
      d_law_told := df_fund X G F36 (ft 36 rfl) (fun _ _ _ _ _ _ us hl => match us, hl with | [_], _ => rfl),
      k_MOST_NAME := kst_intF X G (ft 72 rfl),
      k_SMALL_shelves := kst_strF X G (ft 73 rfl),
      k_SMALL_templates := kst_strF X G (ft 74 rfl),
      k_GREAT := kst_strF X G (ft 75 rfl),
      k_FIGURES := kst_strF X G (ft 76 rfl),
      k_OTHERS := kst_strF X G (ft 77 rfl),
      k_MOST_OPTIONS := kst_intF X G (ft 78 rfl),
      k_MOST_TEXT := kst_intF X G (ft 79 rfl),
      k_MOST_HOLE := kst_intF X G (ft 80 rfl),
      k_TURNS := kst_tupB rfl X G (xt 5 rfl),
      k_MOST_DEEP := kst_intF X G (ft 81 rfl),
      k_MOST_PARTS := kst_intF X G (ft 82 rfl),
      k_MOST_NAMES := kst_intF X G (ft 83 rfl),
      f_len := He.free_ok X G (ft 37 rfl),
      f_isinstance := He.free_ok X G (ft 38 rfl),
      f_str := He.free_ok X G (ft 39 rfl),
      f_all := He.free_ok X G (ft 40 rfl),
      f_int := He.free_ok X G (ft 41 rfl),
      f_bool := He.free_ok X G (ft 42 rfl),
      f_tuple := He.free_ok X G (ft 43 rfl),
      f_set := He.free_ok X G (ft 44 rfl),
      f_zip := He.free_ok X G (ft 45 rfl),
      f_any := He.free_ok X G (ft 46 rfl),
      f_list := He.free_ok X G (ft 47 rfl),
      f_dict := He.free_ok X G (ft 48 rfl),
      f_sorted := He.free_ok X G (ft 49 rfl),
      f_range := He.free_ok X G (ft 50 rfl),
      f_min := He.free_ok X G (ft 51 rfl),
      f_max := He.free_ok X G (ft 52 rfl),
      f_sum := He.free_ok X G (ft 53 rfl),
      f_ValueError := He.free_ok X G (ft 54 rfl),
      x_BadTemplate := excK_of X G (xt 2 rfl) (List.mem_of_getElem? (i := 0) rfl) (He.eqO_ok (ft 55 rfl)),
      x_BadName := excK_of X G (xt 2 rfl) (List.mem_of_getElem? (i := 9) rfl) (He.eqO_ok (ft 64 rfl)),
      x_Nothing := excK_of X G (xt 2 rfl) (List.mem_of_getElem? (i := 8) rfl) (He.eqO_ok (ft 63 rfl)),
      x_BadText := excK_of X G (xt 2 rfl) (List.mem_of_getElem? (i := 1) rfl) (He.eqO_ok (ft 56 rfl)),
      cs_Shelf := cs_of rfl rfl X G (ft 66 rfl) (ft 67 rfl) (ft 68 rfl) (by simp only [List.all_cons, List.all_nil, Bool.and_true, Bool.and_eq_true]; exact ⟨ft 69 rfl, ft 70 rfl, ft 71 rfl⟩),
      m_BadTemplate := He.glo_ok X G (ft 55 rfl),
      m_BadText := He.glo_ok X G (ft 56 rfl),
      m_BadNumber := He.glo_ok X G (ft 57 rfl),
      m_BadPlace := He.glo_ok X G (ft 58 rfl),
      m_NoHole := He.glo_ok X G (ft 59 rfl),
      m_NoChoice := He.glo_ok X G (ft 60 rfl),
      m_TooLong := He.glo_ok X G (ft 61 rfl),
      m_Over := He.glo_ok X G (ft 62 rfl),
      m_Nothing := He.glo_ok X G (ft 63 rfl),
      m_BadName := He.glo_ok X G (ft 64 rfl),
      xc := fun c hc => by
        have := excC_of (xt 3 rfl) c hc
        match c, hc, this with
        | 0, _, h => exact h
        | 1, _, h => exact h
        | 2, _, h => exact h
        | 3, _, h => exact h
        | 4, _, h => exact h
        | 5, _, h => exact h
        | 6, _, h => exact h
        | 7, _, h => exact h
        | 8, _, h => exact h
        | 9, _, h => exact h
        | k + 10, hc, _ => exact absurd hc (by omega),
      kit := fun c k hc hk => by
        have := kit_of (xt 3 rfl) c k hc hk
        have e : ∀ j, j < 10 → (gK K).ca j = ([He.ga K "BadTemplate", He.ga K "BadText", He.ga K "BadNumber", He.ga K "BadPlace", He.ga K "NoHole", He.ga K "NoChoice", He.ga K "TooLong", He.ga K "Over", He.ga K "Nothing", He.ga K "BadName"] : List Addr).getD j 0 := fun j hj => by
          match j, hj with
          | 0, _ => rfl
          | 1, _ => rfl
          | 2, _ => rfl
          | 3, _ => rfl
          | 4, _ => rfl
          | 5, _ => rfl
          | 6, _ => rfl
          | 7, _ => rfl
          | 8, _ => rfl
          | 9, _ => rfl
          | k + 10, hj => exact absurd hj (by omega)
        show PySem.W.kitOne K (.ref ((gK K).ca c)) (.ref ((gK K).ca k)) = _
        rw [e c hc, e k hk]
        exact this,
      kv := fun c hc => by
        have := kv_of (xt 3 rfl) c hc
        match c, hc, this with
        | 0, _, h => exact h
        | 1, _, h => exact h
        | 2, _, h => exact h
        | 3, _, h => exact h
        | 4, _, h => exact h
        | 5, _, h => exact h
        | 6, _, h => exact h
        | 7, _, h => exact h
        | 8, _, h => exact h
        | 9, _, h => exact h
        | k + 10, hc, _ => exact absurd hc (by omega),
      hole := ⟨He.ga K "HoleError", He.glo_ok X G (ft 65 rfl), fun c hc => by
        have := hole_of (xt 4 rfl) c hc
        match c, hc, this with
        | 0, _, h => exact h
        | 1, _, h => exact h
        | 2, _, h => exact h
        | 3, _, h => exact h
        | 4, _, h => exact h
        | 5, _, h => exact h
        | 6, _, h => exact h
        | 7, _, h => exact h
        | 8, _, h => exact h
        | 9, _, h => exact h
        | k + 10, hc, _ => exact absurd hc (by omega)⟩,
      cm_law_rows_bad := List.mem_of_getElem? (i := 0) rfl,
      tm_law_rows_bad := List.mem_of_getElem? (i := 0) rfl,
      tu_law_rows_bad := fun p hp e => uniq_of (T := (gK K).T) (of_decide_eq_true (xt 1 rfl)) hp e (i := 0) rfl,
      cm_law := List.mem_of_getElem? (i := 1) rfl,
      tm_law := List.mem_of_getElem? (i := 1) rfl,
      tu_law := fun p hp e => uniq_of (T := (gK K).T) (of_decide_eq_true (xt 1 rfl)) hp e (i := 1) rfl }
theorem tf_ok {w : World} {K : PySem.W.Frag} {h : Heap} (c : He.SaysX fa fn [] tf ex w h K) : tabFree K (tf.map (He.cT K)) = true := by
  unfold tabFree
  rw [List.all_eq_true]
  intro q hq
  obtain ⟨p, hp, e⟩ := List.mem_map.mp hq
  rw [← e, c.out p hp, c.hd p hp]
  rfl
theorem at_ {w : World} {K : PySem.W.Frag} {h : Heap} {mg : Str → Option Value} {f : Addr} (X : K.In h) (G : h.Ns mainGlobals mg) (hfa : mg "law" = some (.ref f)) (c : He.SaysX fa fn [] tf ex w h K)
    (hv : ∀ ns : List Int, ns.length ≤ 63 → (∀ z ∈ ns, Builtin.Int.intBits z ≤ 1048576) → ∃ st, c_law [.lst (ns.map D.int)] [] = .ok (.bl true) st) : LamX.LawAtS PySem.Challenge.rw_holewalks_k82_shelves_refused w K (L2N.CX (PySem.Challenge.rw_holewalks_k82_shelves_refused).prog w) 30 63 "_law_script" mg f h :=
  at_law (g := gK K) (law_ok (txt X G c)) X hfa (fun p hp => by
    obtain ⟨q, hq, e⟩ := List.mem_map.mp hp
    rw [← e]
    exact c.empty q hq) (tf_ok c) (fun p hp => by
    simp only [gK, List.mem_cons, List.not_mem_nil, or_false] at hp
    simp only [tf, List.map_cons, List.map_nil, List.mem_cons, List.not_mem_nil, or_false]
    rcases hp with hp | hp <;> simp [hp]) (List.all_eq_true.mp (show (exs K).all id = true from c.more) (noLists K) (List.mem_of_getElem? (i := 0) rfl)) hv
end K82
namespace K82
open PySem Hw Pg
def tm : D := .tup [.tup [.str "text", .str "b"]]
def s5 : Store := [.ins 21 ["kept", "past", "ahead"] [.dic [] [], .loc 1, .loc 2], .lst [], .lst []]
def e5 (x0 x1 : D) (m : Int) (x6 : Option D) : Hw.Env := [some x0, some x1, some (.int m), none, none, none, x6, some (.loc 0), some tm, none]
def eF (M : FE) : FE := fOp dAdd (fSlice (fC (.str "abcdefghijkl")) (fPart (fVar 9)) (fPart (fOp dAdd (fOp dAdd (fVar 9) (fC (.int 1))) M))) (fC (.str "z"))
theorem eF_congr {M M' : FE} {σ : Hw.Env} (h : ∀ st, M σ st = M' σ st) (st : Store) : eF M σ st = eF M' σ st := by
  have h2 : ∀ a : FE, ∀ st, fOp dAdd a M σ st = fOp dAdd a M' σ st := fun a st => by simp only [fOp, h]
  have h3 : ∀ a : FE, ∀ st, fPart (fOp dAdd a M) σ st = fPart (fOp dAdd a M') σ st := fun a st => by simp only [fPart, h2]
  have h4 : ∀ a b c : FE, ∀ st, fSlice a (fPart b) (fPart (fOp dAdd c M)) σ st = fSlice a (fPart b) (fPart (fOp dAdd c M')) σ st := fun a b c st => by simp only [fSlice, h3]
  unfold eF
  generalize hA : fSlice (fC (.str "abcdefghijkl")) (fPart (fVar 9)) (fPart (fOp dAdd (fOp dAdd (fVar 9) (fC (.int 1))) M)) = A
  generalize hB : fSlice (fC (.str "abcdefghijkl")) (fPart (fVar 9)) (fPart (fOp dAdd (fOp dAdd (fVar 9) (fC (.int 1))) M')) = B
  have h5 : A σ st = B σ st := by rw [← hA, ← hB]; exact h4 _ _ _ st
  simp only [fOp, h5]
def lcM (M : FE) : FE := fLc (fRange1 (fCons (fC (.int 12)) fNil)) (.nm 9) fYes (eF M) [9]
def resL (r : Int) : D := match lcM (fC (.int r)) (e5 .non .non 0 none) s5 with | .ok d _ => d | _ => .non
theorem lc_ok (x0 x1 : D) (m : Int) : ∃ r : Int, (r = 0 ∨ r = 1 ∨ r = 2) ∧ lcM (fOp dMod (fVar 2) (fC (.int 3))) (e5 x0 x1 m none) s5 = .ok (resL r) s5 := by
  have h0 := Int.emod_nonneg m (show (3 : Int) ≠ 0 by decide)
  have h1 := Int.emod_lt_of_pos m (show (0 : Int) < 3 by decide)
  refine ⟨m % 3, by omega, ?_⟩
  have hm : ∀ st, dMod (.int m) (.int 3) st = some (.int (m % 3), st) := fun st => by
    have hl : Nat.log2 3 < 9000 := by decide +kernel
    simp [dMod, hl]
  have e : lcM (fOp dMod (fVar 2) (fC (.int 3))) (e5 x0 x1 m none) s5 = lcM (fC (.int (m % 3))) (e5 x0 x1 m none) s5 := by
    unfold lcM
    refine fLc_congr fun x σ1 h st => eF_congr (fun st => ?_) st
    cases h
    show R.bind _ _ = _
    simp only [fVar, fC, R.bind]
    show R.of _ = _
    rw [hm]
    rfl
  rw [e]
  have hr : m % 3 = 0 ∨ m % 3 = 1 ∨ m % 3 = 2 := by omega
  rcases hr with hr | hr | hr <;> rw [hr] <;> kernel_rfl
theorem body_ok (ns : List Int) (hl : ns.length ≤ 63) (k : Int) (hk : 0 ≤ k) : b_law_l8 (some (.lst (ns.map D.int)) :: some (.int k) :: List.replicate 8 none) [] = .nx (some (.lst (ns.map D.int)) :: none :: List.replicate 8 none) [] := by
  obtain ⟨c, hc⟩ := cell_ok ns hl k hk []
  obtain ⟨_, _, hd⟩ := dr_ok c k
  generalize hx : D.lst (ns.map D.int) = x0 at *
  generalize dr c k = m at *
  obtain ⟨r, hr, h6⟩ := lc_ok x0 (.int k) m
  unfold b_law_l8
  apply Eq.trans
  · apply gcwp_of
    apply seq_to
    · exact set_ok (call2 (call2 rfl rfl hc) rfl (hd []))
    apply seq_to (σ' := e5 x0 (.int k) m none) (st' := s5)
    · kernel_rfl
    apply seq_to (σ' := e5 x0 (.int k) m none) (st' := s5)
    · kernel_rfl
    apply seq_to (σ' := e5 x0 (.int k) m none) (st' := s5)
    · kernel_rfl
    apply seq_to (σ' := e5 x0 (.int k) m none) (st' := s5)
    · kernel_rfl
    exact seq_nx (set_ok h6)
  · rcases hr with h | h | h <;> subst h <;> kernel_rfl
theorem holds (ns : List Int) (hl : ns.length ≤ 63) (_ : ∀ z ∈ ns, Builtin.Int.intBits z ≤ 1048576) : ∃ st, c_law [.lst (ns.map D.int)] [] = .ok (.bl true) st :=
  law_rounds (m := 8) (c := 4) (b := b_law_l8) (by decide) (by decide) rfl fun k hk => body_ok ns hl k hk
end K82
open PySem PySem.W PySem.Calls PyProof.Rows
theorem PySem.Challenge.cw_holewalks_k82_shelves_refused_holds : PySem.Challenge.rw_holewalks_k82_shelves_refused.Holds := by
  w_on; o_law
  refine HandSHeadRun.head_any (r := OpenLaw.row PySem.Challenge.rw_holewalks_k82_shelves_refused) (q := view (OpenLaw.row PySem.Challenge.rw_holewalks_k82_shelves_refused).prog [80]) (H := K82.hk) (ob := K82.ob) (M := 20000) (loose := K82.names) (d := HandSHeadRun.topDef (OpenLaw.row PySem.Challenge.rw_holewalks_k82_shelves_refused).prog 80) (kwd := []) K82.ob_eq
    (by kernel_rfl) (fun s => by kernel_rfl) K82.run (by kernel_rfl) (by kernel_rfl) (by kernel_rfl) (by rfl) (by first | assumption | decide +kernel) (by decide +kernel) ⟨rfl, rfl, rfl, rfl, rfl, by decide +kernel⟩ ?hw ?hc
  case hw => w_witness2
  case hc =>
    refine LamX.walk_ofTsE (l := PySem.Challenge.rw_holewalks_k82_shelves_refused) (n := 63) (k := 30) (x := "_law_script") (CX := fun w => L2N.CX (PySem.Challenge.rw_holewalks_k82_shelves_refused).prog w) rfl (by decide) (by kernel_rfl) ⟨rfl, by decide, by decide⟩ ?F (fun w H s e s2 z => Hw.hCX (fun _ => _) w H s e s2 z)
    intro w mg fa h Y G hmg0
    obtain ⟨K, KX, c⟩ := Y
    have hmg : mg ("law" : PySem.Str) = some (.ref fa) := by
      have e : (HandSHeadRun.topDef (OpenLaw.row PySem.Challenge.rw_holewalks_k82_shelves_refused).prog 80).name = ("law" : PySem.Str) := by kernel_rfl
      rw [← e]
      exact hmg0
    exact ⟨K, KX, K82.at_ KX G hmg c K82.holds⟩
