import PyProof.Rows.All
import Wide.All
import OpenK.AllK
import Wide.FinOn
import PySem.Challenge.RW_np0053_01
open PySem PySem.W PySem.Calls PyProof.Rows
set_option Elab.async false
set_option maxRecDepth 100000
set_option maxHeartbeats 4000000
set_option linter.unusedVariables false
set_option linter.unusedSimpArgs false
namespace Mine
noncomputable abbrev Led := List (Addr × Obj)
inductive D where
  | undef
  | none
  | bool (b : Bool)
  | int (n : Int)
  | str (x : Str)
  | list (xs : List D)
  | tup (xs : List D)
  | inst (c : Addr) (fs : List (Str × D))
  | mref (a : Addr)
inductive MO where
  | lst (xs : List D)
  | dict (kvs : List (Int × D))
noncomputable abbrev Mem := List (Addr × MO)
noncomputable def Has (B : Heap) (T : Led) (X : List Addr) (a : Addr) (o : Obj) : Prop := B.get? a = some o ∨ ((a, o) ∈ T ∧ a ∉ X)
noncomputable def DictFits (o : Obj) (es : List DictEntry) : Prop := ∃ n, o = dictOf es n
mutual
noncomputable def Rd (B : Heap) (T : Led) (X : List Addr) : Value → D → Prop
  | _, .undef => False
  | v, .none => v = .none
  | v, .bool b => v = .bool b
  | v, .int n => ∃ t, v = .int n t
  | v, .str x => ∃ t, v = .str x t
  | v, .list xs => ∃ a o vs n, v = .ref a ∧ Has B T X a o ∧ o.cls = .type "list" ∧ o.data = .seq vs.toArray n ∧ Rds B T X vs xs
  | v, .tup xs => ∃ a o vs n, v = .ref a ∧ Has B T X a o ∧ o.cls = .type "tuple" ∧ o.data = .seq vs.toArray n ∧ Rds B T X vs xs
  | v, .inst c fs => ∃ a d o es, v = .ref a ∧ Has B T X a (instObj c d) ∧ Has B T X d o ∧ DictFits o es ∧ RdF B T X es fs
  | v, .mref a => v = .ref a
noncomputable def Rds (B : Heap) (T : Led) (X : List Addr) : List Value → List D → Prop
  | vs, [] => vs = []
  | vs, d :: ds => ∃ v r, vs = v :: r ∧ Rd B T X v d ∧ Rds B T X r ds
noncomputable def RdF (B : Heap) (T : Led) (X : List Addr) : List DictEntry → List (Str × D) → Prop
  | es, [] => es = []
  | es, (x, d) :: ds => ∃ h t v r, es = ⟨h, .str x t, v⟩ :: r ∧ Rd B T X v d ∧ RdF B T X r ds
end
theorem Has.get {B h : Heap} {T : Led} {X : List Addr} {a : Addr} {o : Obj} (x : Has B T X a o) (hb : ∀ b o, B.get? b = some o → h.get? b = some o) (ht : ∀ p ∈ T, h.get? p.1 = some p.2) : h.get? a = some o := by
  rcases x with x | ⟨x, _⟩
  · exact hb _ _ x
  · exact ht _ x
structure Stp (T : Led) (X Mu : List Addr) (T' : Led) (X' Mu' : List Addr) : Prop where
  keep : ∀ p ∈ T, p.1 ∉ Mu → p ∈ T'
  xs : ∀ a ∈ X, a ∈ X'
  xnew : ∀ p ∈ T, p.1 ∈ X' → p.1 ∈ X
  mnew : ∀ p ∈ T, p.1 ∈ Mu' → p.1 ∈ Mu
  mks : ∀ a ∈ Mu, a ∈ Mu'
theorem Stp.refl (T : Led) (X Mu : List Addr) : Stp T X Mu T X Mu := ⟨fun _ h _ => h, fun _ h => h, fun _ _ h => h, fun _ _ h => h, fun _ h => h⟩
theorem Stp.trans {T T' T'' : Led} {X X' X'' Mu Mu' Mu'' : List Addr} (a : Stp T X Mu T' X' Mu') (b : Stp T' X' Mu' T'' X'' Mu'') (hm : ∀ x ∈ Mu, x ∈ X) : Stp T X Mu T'' X'' Mu'' := by
  refine ⟨fun p hp hn => b.keep p (a.keep p hp hn) fun q => hn (a.mnew p hp q), fun x hx => b.xs x (a.xs x hx), fun p hp hx => ?_, fun p hp hx => ?_, fun x hx => b.mks x (a.mks x hx)⟩
  · by_cases q : p.1 ∈ Mu
    · exact hm _ q
    · exact a.xnew p hp (b.xnew p (a.keep p hp q) hx)
  · by_cases q : p.1 ∈ Mu
    · exact q
    · exact a.mnew p hp (b.mnew p (a.keep p hp q) hx)
theorem Stp.more {T : Led} {X Mu : List Addr} (n : Led) (p : ∀ q ∈ T, q ∈ n) : Stp T X Mu n X Mu := ⟨fun q h _ => p q h, fun _ h => h, fun _ _ h => h, fun _ _ h => h, fun _ h => h⟩
theorem Stp.cons {T : Led} {X Mu : List Addr} (p : Addr × Obj) : Stp T X Mu (p :: T) X Mu := .more _ fun _ h => .tail _ h
theorem Has.step {B : Heap} {T T' : Led} {X X' Mu Mu' : List Addr} {a : Addr} {o : Obj} (x : Has B T X a o) (s : Stp T X Mu T' X' Mu') (hm : ∀ x ∈ Mu, x ∈ X) : Has B T' X' a o := by
  rcases x with x | ⟨x, y⟩
  · exact .inl x
  · exact .inr ⟨s.keep _ x fun q => y (hm _ q), fun q => y (s.xnew _ x q)⟩
structure Lift (B : Heap) (T : Led) (X : List Addr) (T' : Led) (X' : List Addr) : Prop where
  has : ∀ a o, Has B T X a o → Has B T' X' a o
mutual
theorem Rd.lift {B : Heap} {T T' : Led} {X X' : List Addr} (l : Lift B T X T' X') : ∀ (d : D) (v : Value), Rd B T X v d → Rd B T' X' v d
  | .undef, _, h => h
  | .none, _, h => h
  | .bool _, _, h => h
  | .int _, _, h => h
  | .str _, _, h => h
  | .list xs, v, h => by
    obtain ⟨a, o, vs, n, e, q, c, d, r⟩ := h
    exact ⟨a, o, vs, n, e, l.has _ _ q, c, d, Rds.lift l xs vs r⟩
  | .tup xs, v, h => by
    obtain ⟨a, o, vs, n, e, q, c, d, r⟩ := h
    exact ⟨a, o, vs, n, e, l.has _ _ q, c, d, Rds.lift l xs vs r⟩
  | .inst c fs, v, h => by
    obtain ⟨a, d, o, es, e, q, q', f, r⟩ := h
    exact ⟨a, d, o, es, e, l.has _ _ q, l.has _ _ q', f, RdF.lift l fs es r⟩
  | .mref _, _, h => h
theorem Rds.lift {B : Heap} {T T' : Led} {X X' : List Addr} (l : Lift B T X T' X') : ∀ (ds : List D) (vs : List Value), Rds B T X vs ds → Rds B T' X' vs ds
  | [], _, h => h
  | d :: ds, vs, h => by
    obtain ⟨v, r, e, a, b⟩ := h
    exact ⟨v, r, e, Rd.lift l d v a, Rds.lift l ds r b⟩
theorem RdF.lift {B : Heap} {T T' : Led} {X X' : List Addr} (l : Lift B T X T' X') : ∀ (ds : List (Str × D)) (es : List DictEntry), RdF B T X es ds → RdF B T' X' es ds
  | [], _, h => h
  | (x, d) :: ds, es, h => by
    obtain ⟨hh, t, v, r, e, a, b⟩ := h
    exact ⟨hh, t, v, r, e, Rd.lift l d v a, RdF.lift l ds r b⟩
end
theorem Stp.lift {B : Heap} {T T' : Led} {X X' Mu Mu' : List Addr} (s : Stp T X Mu T' X' Mu') (hm : ∀ x ∈ Mu, x ∈ X) : Lift B T X T' X' := ⟨fun _ _ h => h.step s hm⟩
theorem Rds.length {B : Heap} {T : Led} {X : List Addr} : ∀ {ds : List D} {vs : List Value}, Rds B T X vs ds → vs.length = ds.length
  | [], vs, h => by cases h; rfl
  | d :: ds, vs, h => by
    obtain ⟨v, r, rfl, _, b⟩ := h
    rw [List.length_cons, List.length_cons, Rds.length b]
theorem Rds.get {B : Heap} {T : Led} {X : List Addr} : ∀ {ds : List D} {vs : List Value}, Rds B T X vs ds → ∀ (i : Nat) d, ds[i]? = some d → ∃ v, vs[i]? = some v ∧ Rd B T X v d
  | [], vs, h, i, d, e => by simp at e
  | d' :: ds, vs, h, i, d, e => by
    obtain ⟨v, r, rfl, a, b⟩ := h
    cases i with
    | zero => simp only [List.getElem?_cons_zero, Option.some.injEq] at e; subst e; exact ⟨v, by simp, a⟩
    | succ i => simp only [List.getElem?_cons_succ] at e ⊢; exact Rds.get b i d e
theorem Rds.append {B : Heap} {T : Led} {X : List Addr} : ∀ {ds es : List D} {vs us : List Value}, Rds B T X vs ds → Rds B T X us es → Rds B T X (vs ++ us) (ds ++ es)
  | [], es, vs, us, h, g => by cases h; exact g
  | d :: ds, es, vs, us, h, g => by
    obtain ⟨v, r, rfl, a, b⟩ := h
    rw [List.cons_append, List.cons_append]
    exact ⟨v, r ++ us, rfl, a, Rds.append b g⟩
theorem Rds.nil {B : Heap} {T : Led} {X : List Addr} : Rds B T X [] [] := by rfl
theorem Rds.cons {B : Heap} {T : Led} {X : List Addr} {v : Value} {vs : List Value} {d : D} {ds : List D} (a : Rd B T X v d) (b : Rds B T X vs ds) : Rds B T X (v :: vs) (d :: ds) := by
  exact ⟨v, vs, rfl, a, b⟩
theorem Rds.one {B : Heap} {T : Led} {X : List Addr} {v : Value} {d : D} (a : Rd B T X v d) : Rds B T X [v] [d] := .cons a .nil
theorem Rds.take {B : Heap} {T : Led} {X : List Addr} : ∀ {ds : List D} {vs : List Value} (n : Nat), Rds B T X vs ds → Rds B T X (vs.take n) (ds.take n)
  | [], vs, n, h => by cases h; simp only [List.take_nil]; exact .nil
  | d :: ds, vs, 0, h => by simp only [List.take_zero]; exact .nil
  | d :: ds, vs, n + 1, h => by
    obtain ⟨v, r, rfl, a, b⟩ := h
    simp only [List.take_succ_cons]
    exact .cons a (Rds.take n b)
theorem Rds.drop {B : Heap} {T : Led} {X : List Addr} : ∀ {ds : List D} {vs : List Value} (n : Nat), Rds B T X vs ds → Rds B T X (vs.drop n) (ds.drop n)
  | [], vs, n, h => by cases h; simp only [List.drop_nil]; exact .nil
  | d :: ds, vs, 0, h => by simpa only [List.drop_zero] using h
  | d :: ds, vs, n + 1, h => by
    obtain ⟨v, r, rfl, a, b⟩ := h
    simp only [List.drop_succ_cons]
    exact Rds.drop n b
theorem Rds.reverse {B : Heap} {T : Led} {X : List Addr} : ∀ {ds : List D} {vs : List Value}, Rds B T X vs ds → Rds B T X vs.reverse ds.reverse
  | [], vs, h => by cases h; simp only [List.reverse_nil]; exact .nil
  | d :: ds, vs, h => by
    obtain ⟨v, r, rfl, a, b⟩ := h
    simp only [List.reverse_cons]
    exact (Rds.reverse b).append (.one a)
theorem Rds.set {B : Heap} {T : Led} {X : List Addr} : ∀ {ds : List D} {vs : List Value} (n : Nat) {v : Value} {d : D}, Rds B T X vs ds → Rd B T X v d → Rds B T X (vs.set n v) (ds.set n d)
  | [], vs, n, _, _, h, g => by cases h; simp only [List.set_nil]; exact .nil
  | d' :: ds, vs, 0, v, d, h, g => by
    obtain ⟨v', r, rfl, a, b⟩ := h
    simp only [List.set_cons_zero]
    exact .cons g b
  | d' :: ds, vs, n + 1, v, d, h, g => by
    obtain ⟨v', r, rfl, a, b⟩ := h
    simp only [List.set_cons_succ]
    exact .cons a (Rds.set n b g)
inductive Bop where | add | sub | mul | fdiv | mod | pow | cat
inductive Cop where | eq | ne | lt | le | gt | ge
inductive Bi where | len | abs | ord | chr | sorted | max | all
inductive Mk where | split | join | strip | lstrip | rstrip | count | pop0 | append | get
inductive ME where
  | var (i : Nat) | gl (j : Nat) | int (n : Int) | str (x : Str) | none | bool (b : Bool)
  | bin (o : Bop) (a b : ME) | neg (a : ME)
  | cmp (o : Cop) (a b : ME) | neE (a : ME) | chain (o p : Cop) (a b c : ME)
  | isN (neg : Bool) (a : ME) | isIn (neg : Bool) (a b : ME)
  | not (a : ME) | ands (es : List ME) | ors (es : List ME) | ite (c a b : ME)
  | call (j : Nat) (es : List ME) | mcall (j : Nat) (o : ME) (es : List ME)
  | attr (j : Nat) (o : ME)
  | bi (b : Bi) (es : List ME) | meth (m : Mk) (o : ME) (es : List ME)
  | list (es : List ME) | rep (a b : ME) | tup (es : List ME)
  | idx (a i : ME) | slc (a : ME) (lo hi : List ME) | rev (a : ME)
  | comp (elt it : ME) (cond : List ME) | compR (elt : ME) (rg : List ME) (cond : List ME)
inductive MS where
  | set (i : Nat) (e : ME) | setT (is : List Nat) (e : ME) | newL (i : Nat)
  | setI (o i v : ME)
  | ret (e : ME) | ex (e : ME) | fail
  | ite (c : ME) (t f : List MS) | whl (c : ME) (b : List MS)
  | fore (t : List Nat) (it : ME) (b : List MS) | forr (i : Nat) (rg : List ME) (b : List MS)
noncomputable abbrev KE := D → Mem → Prop
structure At where
  cls : Addr
  name : Str
  i : Nat
  names : List Str
structure Mt where
  cls : Addr
  name : Str
  fn : Addr
  names : List Str
structure Cfg where
  gl : List (Str × D)
  fn : List (Str × Addr)
  mt : List Mt
  at_ : List At
  G : Nat → List D → Mem → KE → Prop
  GM : Nat → List D → Mem → KE → Prop
noncomputable def D.isDef : D → Bool
  | .undef => false
  | _ => true
noncomputable def lookM (μ : Mem) (a : Addr) : Option MO := match μ with
  | [] => Option.none
  | (b, o) :: r => if b = a then some o else lookM r a
noncomputable def setM (μ : Mem) (a : Addr) (o : MO) : Mem := μ.map fun p => if p.1 = a then (a, o) else p
noncomputable def getAt (ds : List D) (n : Int) : Option D := if 0 ≤ n then ds[n.toNat]? else if 0 ≤ n + ds.length then ds[(n + ds.length).toNat]? else Option.none
noncomputable def valD (kvs : List (Int × D)) (c : Int) : Option D := (kvs.find? fun kv => kv.1 = c).map (·.2)
noncomputable def storeD (kvs : List (Int × D)) (c : Int) (v : D) : List (Int × D) := if kvs.any (fun kv => kv.1 = c) then kvs.map (fun kv => if kv.1 = c then (kv.1, v) else kv) else kvs ++ [(c, v)]
noncomputable def onSm {α : Type} (o : Option α) (k : α → Prop) : Prop := match o with
  | some a => k a
  | Option.none => False
theorem onSm_inv {α : Type} {o : Option α} {k : α → Prop} (h : onSm o k) : ∃ a, o = some a ∧ k a := by
  cases o with
  | none => exact h.elim
  | some a => exact ⟨a, rfl, h⟩
noncomputable def onInt (d : D) (k : Int → Prop) : Prop := match d with
  | .int n => k n
  | _ => False
noncomputable def onStr (d : D) (k : Str → Prop) : Prop := match d with
  | .str n => k n
  | _ => False
noncomputable def onLst (d : D) (k : List D → Prop) : Prop := match d with
  | .list n => k n
  | _ => False
noncomputable def onBl (d : D) (k : Bool → Prop) : Prop := match d with
  | .bool n => k n
  | _ => False
noncomputable def onRef (d : D) (k : Addr → Prop) : Prop := match d with
  | .mref n => k n
  | _ => False
noncomputable def onNone (d : D) (k : Prop) : Prop := match d with
  | .none => k
  | _ => False
noncomputable def onSeq (d : D) (k : List D → Prop) : Prop := match d with
  | .tup xs => k xs
  | .list xs => k xs
  | _ => False
noncomputable def onB (b : Bool) (p : Prop) : Prop := match b with
  | true => p
  | false => False
theorem onB_of {b : Bool} {p : Prop} (h : b = true) (q : p) : onB b p := by
  subst h; exact q
theorem onB_inv {b : Bool} {p : Prop} (h : onB b p) : b = true ∧ p := by
  cases b
  · exact h.elim
  · exact ⟨rfl, h⟩
noncomputable def on1D (l : List D) (k : D → Prop) : Prop := match l with
  | [] => False
  | d :: r => (match r with
    | [] => k d
    | _ :: _ => False)
noncomputable def on2D (l : List D) (k : D → D → Prop) : Prop := match l with
  | [] => False
  | d :: r => on1D r (k d)
noncomputable def onIO (d : D) (k : Int → Option Bool) : Option Bool := match d with
  | .int n => k n
  | _ => Option.none
noncomputable def onSO (d : D) (k : Str → Option Bool) : Option Bool := match d with
  | .str n => k n
  | _ => Option.none
noncomputable def binD (o : Bop) (a b : D) (k : D → Prop) : Prop := match o with
  | .add => (match a with
    | .int a => onInt b fun b => k (.int (a + b))
    | .str x => onStr b fun y => x.length + y.length ≤ sizeLine ∧ k (.str (x ++ y))
    | .list x => onLst b fun y => x.length + y.length ≤ sizeLine ∧ k (.list (x ++ y))
    | _ => False)
  | .sub => onInt a fun a => onInt b fun b => k (.int (a - b))
  | .mul => (match a with
    | .int a => onInt b fun b => IntMulOk a b ∧ k (.int (a * b))
    | .str x => onInt b fun n => x.length ≤ 16 ∧ 0 ≤ n ∧ n ≤ 1000000 ∧ k (.str (Txt.mul x n))
    | _ => False)
  | .fdiv => onInt a fun a => onInt b fun b => b ≠ 0 ∧ b.natAbs < 1073741824 ∧ k (.int (a.fdiv b))
  | .mod => onInt a fun a => onInt b fun b => b ≠ 0 ∧ k (.int (a.fmod b))
  | .pow => onInt a fun a => onInt b fun b => 0 ≤ b ∧ b ≤ 1000000 ∧ a.natAbs < 2 ^ 64 ∧ k (.int (a ^ b.toNat))
  | .cat => False
noncomputable def cmpD (o : Cop) (a b : D) : Option Bool := match o with
  | .eq => (match a with
    | .int a => onIO b fun b => some (a == b)
    | .str a => onSO b fun b => some (a == b)
    | _ => Option.none)
  | .ne => (match a with
    | .int a => onIO b fun b => some (a != b)
    | .str a => onSO b fun b => some (a != b)
    | _ => Option.none)
  | .lt => onIO a fun a => onIO b fun b => some (decide (a < b))
  | .le => onIO a fun a => onIO b fun b => some (decide (a ≤ b))
  | .gt => onIO a fun a => onIO b fun b => some (decide (b < a))
  | .ge => onIO a fun a => onIO b fun b => some (decide (b ≤ a))
noncomputable def intOf : D → Option Int
  | .int n => some n
  | _ => Option.none
noncomputable def strOf : D → Option Str
  | .str n => some n
  | _ => Option.none
noncomputable def boolOf : D → Option Bool
  | .bool n => some n
  | _ => Option.none
noncomputable def on2O (l : List D) (k : D → D → Option Bool) : Option Bool := match l with
  | [] => Option.none
  | d :: r => (match r with
    | [] => Option.none
    | e :: r => (match r with
      | [] => k d e
      | _ :: _ => Option.none))
noncomputable def inD (a b : D) : Option Bool := match b with
  | .str y => onSO a fun x => some (Txt.contains y x)
  | .tup l => onIO a fun n => on2O l fun p q => onIO p fun p => onIO q fun q => some (p == n || q == n)
  | _ => Option.none
noncomputable def biD (b : Bi) (ds : List D) (μ : Mem) (k : D → Prop) : Prop := match b with
  | .len => on1D ds fun d => (match d with
    | .str x => x.length ≤ sizeLine ∧ k (.int x.length)
    | .list xs => xs.length ≤ sizeLine ∧ k (.int xs.length)
    | .mref a => (match lookM μ a with | some (.lst xs) => k (.int xs.length) | _ => False)
    | _ => False)
  | .abs => on1D ds fun d => onInt d fun n => k (.int (if n < 0 then -n else n))
  | .ord => on1D ds fun d => onStr d fun x => ∃ c, x = ⟨#[c]⟩ ∧ k (.int (c : Nat))
  | .chr => on1D ds fun d => onInt d fun n => 0 ≤ n ∧ n < 1114112 ∧ k (.str ⟨#[n.toNat]⟩)
  | .sorted => on1D ds fun d => onLst d fun l => on2D l fun a b => onInt a fun a => onInt b fun b => ∀ p q, p = (if b < a then b else a) → q = (if b < a then a else b) → k (.list [.int p, .int q])
  | .max => on2D ds fun a b => onInt a fun a => onInt b fun b => k (.int (if b > a then b else a))
  | .all => on1D ds fun d => onLst d fun xs => ∃ bs : List Bool, xs = bs.map .bool ∧ k (.bool (bs.all id))
noncomputable def mkD (m : Mk) (d : D) (ds : List D) (μ : Mem) (k : KE) : Prop := match m with
  | .split => onStr d fun x => on1D ds fun d => onStr d fun y => (y.length == 0) = false ∧ x.length ≤ sizeLine ∧ (Builtin.Str.partsBetween x (Builtin.Str.occurrences x y 0 x.length (x.length + 1)) y.length).length ≤ sizeLine ∧ k (.list ((Txt.split x y).map .str)) μ
  | .join => onStr d fun x => on1D ds fun d => onLst d fun ys => ∃ ts : List Str, ys = ts.map .str ∧ JoinOk x ts = true ∧ k (.str (Txt.join x ts)) μ
  | .strip => onStr d fun x => on1D ds fun d => onStr d fun y => x.length ≤ sizeLine ∧ k (.str (Txt.stripChars x y)) μ
  | .lstrip => onStr d fun x => on1D ds fun d => onStr d fun y => x.length ≤ sizeLine ∧ k (.str (Txt.lstripChars x y)) μ
  | .rstrip => onStr d fun x => on1D ds fun d => onStr d fun y => x.length ≤ sizeLine ∧ k (.str (Txt.rstripChars x y)) μ
  | .count => onStr d fun x => on1D ds fun d => onStr d fun y => k (.int (Txt.count x y)) μ
  | .pop0 => onRef d fun a => on1D ds fun d => onInt d fun z => z = 0 ∧ (match lookM μ a with | some (.lst (x :: xs)) => k x (setM μ a (.lst xs)) | _ => False)
  | .append => onRef d fun a => on1D ds fun x => (match lookM μ a with | some (.lst xs) => xs.length < sizeLine ∧ k .none (setM μ a (.lst (xs ++ [x]))) | _ => False)
  | .get => onRef d fun a => on2D ds fun c n => onInt c fun c => onNone n (match lookM μ a with | some (.dict kvs) => k ((valD kvs c).getD .none) μ | _ => False)
noncomputable def recvOk (m : Mk) (d : D) (μ : Mem) : Prop := match m with
  | .pop0 => onRef d fun a => ∃ xs, lookM μ a = some (.lst xs)
  | .append => onRef d fun a => ∃ xs, lookM μ a = some (.lst xs)
  | .get => onRef d fun a => ∃ xs, lookM μ a = some (.dict xs)
  | _ => onStr d fun _ => True
noncomputable def idxD (d i : D) (μ : Mem) (k : D → Prop) : Prop := onInt i fun n => (match d with
  | .list xs => xs.length ≤ sizeLine ∧ ∃ v, getAt xs n = some v ∧ k v
  | .tup xs => xs.length ≤ sizeLine ∧ ∃ v, getAt xs n = some v ∧ k v
  | .str x => x.length ≤ sizeLine ∧ -(x.length : Int) ≤ n ∧ n < (x.length : Int) ∧ k (.str (Txt.item x n))
  | .mref a => (match lookM μ a with | some (.lst xs) => ∃ v, getAt xs n = some v ∧ k v | _ => False)
  | _ => False)
noncomputable def pick {α : Type} (l : List α) (lo hi : Option Int) : List α := (l.drop (kms_lo lo l.length)).take (kms_hi hi l.length - kms_lo lo l.length)
noncomputable def slcD (d : D) (lo hi : Option Int) (k : D → Prop) : Prop := match d with
  | .list xs => xs.length ≤ sizeLine ∧ k (.list (pick xs lo hi))
  | .str x => x.length ≤ sizeLine ∧ k (.str (Txt.slice x lo hi))
  | _ => False
noncomputable def onPart (l : List D) (k : Option Int → Prop) : Prop := match l with
  | [] => k Option.none
  | d :: r => (match r with
    | [] => onInt d fun i => k (some i)
    | _ :: _ => False)
noncomputable def items : D → Option (List D)
  | .list xs => some xs
  | .tup xs => some xs
  | .str x => some (x.cps.toList.map fun c => .str ⟨#[c]⟩)
  | _ => Option.none
noncomputable def rangeOf : List D → Option (List D)
  | [.int b] => some ((List.range b.toNat).map fun i => .int (i : Nat))
  | [.int a, .int b] => some ((List.range (b - a).toNat).map fun i => .int (a + (i : Nat)))
  | _ => Option.none
noncomputable def smallR (l : List D) : Prop := match l with
  | [] => False
  | d :: r => (match r with
    | [] => onInt d fun b => -2 ^ 60 ≤ b ∧ b ≤ sizeLine
    | e :: r => (match r with
      | [] => onInt d fun a => onInt e fun b => -2 ^ 60 ≤ a ∧ a ≤ 2 ^ 60 ∧ -2 ^ 60 ≤ b ∧ b ≤ 2 ^ 60 ∧ b - a ≤ sizeLine
      | _ :: _ => False))
noncomputable def compGo (cond : D → Mem → KE → Prop) (elt : D → Mem → KE → Prop) : List D → List D → Mem → (List D → Mem → Prop) → Prop
  | [], acc, μ, k => k acc μ
  | d :: ds, acc, μ, k => cond d μ fun b μ1 => ∃ t, b = .bool t ∧ (t = true → elt d μ1 fun v μ2 => compGo cond elt ds (acc ++ [v]) μ2 k) ∧ (t = false → compGo cond elt ds acc μ1 k)
section
variable (Γ : Cfg)
mutual
noncomputable def vcE : ME → List D → Mem → KE → Prop
  | .var i, loc, μ, k => onB (loc.getD i .undef).isDef (k (loc.getD i .undef) μ)
  | .gl j, _, μ, k => onSm Γ.gl[j]? fun p => k p.2 μ
  | .int n, _, μ, k => k (.int n) μ
  | .str x, _, μ, k => k (.str x) μ
  | .none, _, μ, k => k .none μ
  | .bool b, _, μ, k => k (.bool b) μ
  | .bin o a b, loc, μ, k => vcE a loc μ fun x μ1 => vcE b loc μ1 fun y μ2 => (match o with
      | .cat => onLst x fun x => onLst y fun y => x.length + y.length ≤ sizeLine ∧ ∀ a, lookM μ2 a = Option.none → k (.mref a) ((a, .lst (x ++ y)) :: μ2)
      | o => binD o x y fun r => k r μ2)
  | .neg a, loc, μ, k => vcE a loc μ fun x μ1 => onInt x fun n => k (.int (-n)) μ1
  | .cmp o a b, loc, μ, k => vcE a loc μ fun x μ1 => vcE b loc μ1 fun y μ2 => onSm (cmpD o x y) fun r => k (.bool r) μ2
  | .neE a, loc, μ, k => vcE a loc μ fun x μ1 => onLst x fun xs => ((∃ ns : List Int, xs = ns.map .int) ∨ (∃ ts : List Str, (∀ t ∈ ts, PyData.strOk t = true) ∧ xs = ts.map .str)) ∧ xs.length ≤ sizeLine ∧ k (.bool (!xs.isEmpty)) μ1
  | .chain o p a b c, loc, μ, k => vcE a loc μ fun x μ1 => vcE b loc μ1 fun y μ2 => onSm (cmpD o x y) fun r => (r = false → k (.bool false) μ2) ∧ (r = true → vcE c loc μ2 fun z μ3 => onSm (cmpD p y z) fun r => k (.bool r) μ3)
  | .isN ng a, loc, μ, k => vcE a loc μ fun x μ1 => (match x with
      | .none => k (.bool (!ng)) μ1
      | .undef => False
      | _ => k (.bool ng) μ1)
  | .isIn ng a b, loc, μ, k => vcE a loc μ fun x μ1 => vcE b loc μ1 fun y μ2 => onSm (inD x y) fun r => k (.bool (r != ng)) μ2
  | .not a, loc, μ, k => vcE a loc μ fun x μ1 => onBl x fun b => k (.bool (!b)) μ1
  | .ands es, loc, μ, k => vcAnd es loc μ k
  | .ors es, loc, μ, k => vcOr es loc μ k
  | .ite c a b, loc, μ, k => vcE c loc μ fun x μ1 => onBl x fun t => (t = true → vcE a loc μ1 k) ∧ (t = false → vcE b loc μ1 k)
  | .call j es, loc, μ, k => vcEs es loc μ fun ds μ1 => Γ.G j ds μ1 k
  | .mcall j o es, loc, μ, k => vcE o loc μ fun d μ1 => (match d, Γ.mt[j]? with | .inst c fs, some m => c = m.cls ∧ fs.map (·.1) = m.names | _, _ => False) ∧ vcEs es loc μ1 fun ds μ2 => Γ.GM j (d :: ds) μ2 k
  | .attr j o, loc, μ, k => vcE o loc μ fun d μ1 => (match d, Γ.at_[j]? with | .inst c fs, some m => c = m.cls ∧ fs.map (·.1) = m.names ∧ ∃ v, (fs.map (·.2))[m.i]? = some v ∧ k v μ1 | _, _ => False)
  | .bi b es, loc, μ, k => vcEs es loc μ fun ds μ1 => biD b ds μ1 fun r => k r μ1
  | .meth m o es, loc, μ, k => vcE o loc μ fun d μ1 => recvOk m d μ1 ∧ vcEs es loc μ1 fun ds μ2 => mkD m d ds μ2 k
  | .list es, loc, μ, k => vcEs es loc μ fun ds μ1 => k (.list ds) μ1
  | .rep a b, loc, μ, k => vcE a loc μ fun d μ1 => vcE b loc μ1 fun n μ2 => onInt n fun n => 0 ≤ n ∧ n ≤ 1000000 ∧ k (.list (List.replicate n.toNat d)) μ2
  | .tup es, loc, μ, k => vcEs es loc μ fun ds μ1 => k (.tup ds) μ1
  | .idx a i, loc, μ, k => vcE a loc μ fun d μ1 => vcE i loc μ1 fun n μ2 => idxD d n μ2 fun r => k r μ2
  | .slc a lo hi, loc, μ, k => vcE a loc μ fun d μ1 => vcEs lo loc μ1 fun l μ2 => vcEs hi loc μ2 fun h μ3 => onPart l fun l => onPart h fun h => slcD d l h fun r => k r μ3
  | .rev a, loc, μ, k => vcE a loc μ fun d μ1 => (match d with
      | .list xs => xs.length ≤ sizeLine ∧ k (.list xs.reverse) μ1
      | .mref a => (match lookM μ1 a with | some (.lst xs) => k (.list xs.reverse) μ1 | _ => False)
      | _ => False)
  | .comp elt it cond, loc, μ, k => vcE it loc μ fun d μ1 => onSm (items d) fun xs => xs.length ≤ sizeLine ∧ compGo (fun x μ k => vcAnd cond (loc ++ [x]) μ k) (fun x μ k => vcE elt (loc ++ [x]) μ k) xs [] μ1 fun ys μ2 => k (.list ys) μ2
  | .compR elt rg cond, loc, μ, k => vcEs rg loc μ fun ds μ1 => smallR ds ∧ onSm (rangeOf ds) fun xs => compGo (fun x μ k => vcAnd cond (loc ++ [x]) μ k) (fun x μ k => vcE elt (loc ++ [x]) μ k) xs [] μ1 fun ys μ2 => k (.list ys) μ2
noncomputable def vcEs : List ME → List D → Mem → (List D → Mem → Prop) → Prop
  | [], _, μ, k => k [] μ
  | e :: es, loc, μ, k => vcE e loc μ fun d μ1 => vcEs es loc μ1 fun ds μ2 => k (d :: ds) μ2
noncomputable def vcAnd : List ME → List D → Mem → KE → Prop
  | [], _, μ, k => k (.bool true) μ
  | e :: es, loc, μ, k => vcE e loc μ fun x μ1 => onBl x fun t => (t = false → k (.bool false) μ1) ∧ (t = true → vcAnd es loc μ1 k)
noncomputable def vcOr : List ME → List D → Mem → KE → Prop
  | [], _, μ, k => k (.bool false) μ
  | e :: es, loc, μ, k => vcE e loc μ fun x μ1 => onBl x fun t => (t = true → k (.bool true) μ1) ∧ (t = false → vcOr es loc μ1 k)
end
inductive Out where
  | next
  | ret (d : D)
noncomputable abbrev KS := Out → List D → Mem → Prop
noncomputable def setVs : List D → List Nat → List D → List D
  | loc, i :: is, d :: ds => setVs (loc.set i d) is ds
  | loc, _, _ => loc
noncomputable def bindT (t : List Nat) (d : D) (loc : List D) : Option (List D) := match t with
  | [i] => some (loc.set i d)
  | is => match d with
    | .tup xs => if xs.length = is.length then some (setVs loc is xs) else Option.none
    | _ => Option.none
noncomputable def forGo (t : List Nat) (body : List D → Mem → KS → Prop) : List D → List D → Mem → KS → Prop
  | [], loc, μ, k => k .next loc μ
  | d :: ds, loc, μ, k => onSm (bindT t d loc) fun loc1 => body loc1 μ fun o l μ1 => (match o with
      | .next => forGo t body ds l μ1 k
      | .ret v => k (.ret v) l μ1)
mutual
noncomputable def vcS : MS → List D → Mem → KS → Prop
  | .set i e, loc, μ, k => vcE Γ e loc μ fun d μ1 => k .next (loc.set i d) μ1
  | .setT is e, loc, μ, k => vcE Γ e loc μ fun d μ1 => onSeq d fun xs => onB (Nat.beq xs.length is.length) (k .next (setVs loc is xs) μ1)
  | .newL i, loc, μ, k => ∀ a, lookM μ a = Option.none → k .next (loc.set i (.mref a)) ((a, .lst []) :: μ)
  | .setI o i v, loc, μ, k => vcE Γ v loc μ fun x μ1 => vcE Γ o loc μ1 fun d μ2 => vcE Γ i loc μ2 fun n μ3 => onRef d fun a => onInt n fun n => (match lookM μ3 a with
          | some (.lst xs) => 0 ≤ n ∧ n < xs.length ∧ k .next loc (setM μ3 a (.lst (xs.set n.toNat x)))
          | some (.dict kvs) => kvs.length < 1000 ∧ k .next loc (setM μ3 a (.dict (storeD kvs n x)))
          | Option.none => False)
  | .ret e, loc, μ, k => vcE Γ e loc μ fun d μ1 => k (.ret d) loc μ1
  | .ex e, loc, μ, k => vcE Γ e loc μ fun d μ1 => (match d with | .int _ => k .next loc μ1 | .none => k .next loc μ1 | _ => False)
  | .fail, _, _, _ => False
  | .ite c t f, loc, μ, k => vcE Γ c loc μ fun x μ1 => onBl x fun b => (b = true → vcSs t loc μ1 k) ∧ (b = false → vcSs f loc μ1 k)
  | .whl c b, loc, μ, k => ∃ (I : List D → Mem → Prop) (ms : List D → Mem → Nat), I loc μ ∧ ∀ l m, I l m → vcE Γ c l m fun x m1 => onBl x fun t => (t = true → vcSs b l m1 fun o l2 m2 => (match o with
          | .next => I l2 m2 ∧ ms l2 m2 < ms l m
          | .ret v => k (.ret v) l2 m2)) ∧ (t = false → k .next l m1)
  | .fore t it b, loc, μ, k => vcE Γ it loc μ fun d μ1 => onSm (items d) fun xs => xs.length ≤ sizeLine ∧ forGo t (fun l m k => vcSs b l m k) xs loc μ1 k
  | .forr i rg b, loc, μ, k => vcEs Γ rg loc μ fun ds μ1 => smallR ds ∧ onSm (rangeOf ds) fun xs => forGo [i] (fun l m k => vcSs b l m k) xs loc μ1 k
noncomputable def vcSs : List MS → List D → Mem → KS → Prop
  | [], loc, μ, k => k .next loc μ
  | s :: ss, loc, μ, k => vcS s loc μ fun o l μ1 => (match o with
      | .next => vcSs ss l μ1 k
      | .ret v => k (.ret v) l μ1)
end
end
noncomputable def nb : List Nat → List Nat → Bool
  | [], b => b.isEmpty
  | a :: r, [] => false
  | a :: r, b :: t => Nat.beq a b && nb r t
theorem an2 {a b : Bool} (h : (a && b) = true) : a = true ∧ b = true := by
  cases a
  · cases h
  · exact ⟨rfl, h⟩
theorem nb_eq : ∀ {a b : List Nat}, nb a b = true → a = b
  | [], b, h => (List.isEmpty_iff.mp h).symm
  | a :: r, [], h => by cases h
  | a :: r, b :: t, h => by rw [Nat.eq_of_beq_eq_true (an2 h).1, nb_eq (an2 h).2]
noncomputable def sb (a b : Str) : Bool := nb a.cps.toList b.cps.toList
theorem sb_eq {a b : Str} (h : sb a b = true) : a = b := by
  obtain ⟨⟨a⟩⟩ := a; obtain ⟨⟨b⟩⟩ := b
  have := nb_eq h
  simp only at this
  rw [this]
noncomputable def lkS {α : Type} (x : Str) : List (Str × α) → Option α
  | [] => Option.none
  | (y, k) :: r => match sb x y with | true => some k | false => lkS x r
theorem lkS_c {α : Type} {x y : Str} {k : α} {r : List (Str × α)} : lkS x ((y, k) :: r) = match (generalizing := false) sb x y with | true => some k | false => lkS x r := rfl
theorem look_c {b a : Addr} {o : MO} {r : Mem} : lookM ((b, o) :: r) a = if b = a then some o else lookM r a := rfl
structure Cx where
  prog : Program
  w : World
  K : Frag
  B : Heap
  mg : Str → Option Value
  mb : Str → Option Value
structure Wd (C : Cx) (h : Heap) : Prop where
  k : C.K.In h
  g : h.Ns mainGlobals C.mg
  b : h.Ns builtinsNs C.mb
  nl : h.NoLimit
  bb : ∀ x : Str, x ≠ "__name__" → C.mb x = bootBuiltins x
  sm : ∃ o, h.get? sysModules = some o
theorem Wd.keeps {C : Cx} {h h' : Heap} (W : Wd C h) (k : ∀ b o, h.get? b = some o → h'.get? b = some o) : Wd C h' := ⟨W.k.keeps k, W.g.keeps k, W.b.keeps k, W.nl.keeps k, W.bb, let ⟨o, e⟩ := W.sm; ⟨o, k _ _ e⟩⟩
structure Fm (C : Cx) (n : Nat) (A A₀ : Around) (fenv : Env) (outer : List Env) (h₀ : Heap) (L : Addr) : Prop where
  hh : A.handled = Option.none
  hd : A.depth + 4 * n + 8 < recursionLimit
  hu : A.units + 32 * n + 200 < cLine
  hA : A.frames = some (fenv :: outer)
  hf : fenv.frame = some L
  hk : fenv.scope.kind = .function
  bl : Below A₀ C.B outer h₀
  wd : Wd C h₀
noncomputable abbrev keys (μ : Mem) : List Addr := μ.map (·.1)
noncomputable def MOk (C : Cx) (T : Led) (X : List Addr) (x : Addr × MO) : Prop := match x.2 with
  | .lst xs => ∃ vs n, (x.1, listOf vs.toArray n) ∈ T ∧ Rds C.B T X vs xs ∧ vs.length ≤ sizeLine
  | .dict kvs => ∃ o us, (x.1, o) ∈ T ∧ o.IsDictOf (intKind C.prog C.w) us ∧ us.map (·.1) = kvs.map (·.1) ∧ Rds C.B T X (us.map (·.2)) (kvs.map (·.2)) ∧ us.length ≤ 2000
structure Ok (C : Cx) (h₀ : Heap) (L : Addr) (s : Shared) (m : Str → Option Value) (T : Led) (X : List Addr) (μ : Mem) : Prop where
  F : Fr h₀ L s.heap m
  N : News h₀ L s.heap T
  M : ∀ x ∈ μ, MOk C T X x
  sub : ∀ a ∈ keys μ, a ∈ X
  xin : ∀ a ∈ X, ∃ o, (a, o) ∈ T
  st : C.B.StaysIn h₀
theorem Ok.has {C : Cx} {h₀ : Heap} {L : Addr} {s : Shared} {m : Str → Option Value} {T : Led} {X : List Addr} {μ : Mem} (O : Ok C h₀ L s m T X μ) {a : Addr} {o : Obj} (h : Has C.B T X a o) : s.heap.get? a = some o :=
  h.get (fun b o e => O.F.keep b o (O.st b o e)) fun p hp => (O.N p hp).1
theorem Ok.fresh {C : Cx} {h₀ : Heap} {L : Addr} {s : Shared} {m : Str → Option Value} {T : Led} {X : List Addr} {μ : Mem} (O : Ok C h₀ L s m T X μ) : s.heap.objs.size ∉ X := fun h => by
  obtain ⟨o, ho⟩ := O.xin _ h
  exact Nat.lt_irrefl _ (Heap.lt_size (O.N _ ho).1)
noncomputable def PE (C : Cx) (h₀ : Heap) (L : Addr) (s : Shared) (m : Str → Option Value) (T : Led) (X : List Addr) (μ : Mem) (k : KE) (Q : Value → Shared → Prop) : Prop :=
  ∀ v d h' tk T' X' μ', Ok C h₀ L { s with heap := h', toks := tk } m T' X' μ' → Stp T X (keys μ) T' X' (keys μ') → Rd C.B T' X' v d → k d μ' → Q v { s with heap := h', toks := tk }
theorem MOk.step {C : Cx} {T T' : Led} {X X' Mu Mu' : List Addr} (s : Stp T X Mu T' X' Mu') (hm : ∀ x ∈ Mu, x ∈ X) {x : Addr × MO} (hx : x.1 ∉ Mu → False) (h : MOk C T X x) (hk : ∀ p ∈ T, p.1 = x.1 → p ∈ T') : MOk C T' X' x := by
  unfold MOk at h ⊢
  obtain ⟨a, mo⟩ := x
  cases mo with
  | lst xs =>
    obtain ⟨vs, n, h1, h2, h3⟩ := h
    exact ⟨vs, n, hk _ h1 rfl, Rds.lift (s.lift hm) _ _ h2, h3⟩
  | dict kvs =>
    obtain ⟨o, us, h1, h2, h3, h4, h5⟩ := h
    exact ⟨o, us, hk _ h1 rfl, h2, h3, Rds.lift (s.lift hm) _ _ h4, h5⟩
theorem Ok.more {C : Cx} {h₀ : Heap} {L : Addr} {s : Shared} {m : Str → Option Value} {T T' : Led} {X : List Addr} {μ : Mem} (O : Ok C h₀ L s m T X μ) {h' : Heap} {tk : Nat} (F : Fr h₀ L h' m) (N : News h₀ L h' T') (hs : ∀ p ∈ T, p ∈ T') :
    Ok C h₀ L { s with heap := h', toks := tk } m T' X μ :=
  ⟨F, N, fun x hx => (O.M x hx).step (.more T' hs) (fun a h => O.sub a h) (fun h => h (List.mem_map_of_mem hx)) fun p hp _ => hs p hp, O.sub, fun a ha => let ⟨o, h⟩ := O.xin a ha; ⟨o, hs _ h⟩, O.st⟩
theorem Ok.same {C : Cx} {h₀ : Heap} {L : Addr} {s : Shared} {m : Str → Option Value} {T : Led} {X : List Addr} {μ : Mem} (O : Ok C h₀ L s m T X μ) (tk : Nat) : Ok C h₀ L { s with toks := tk } m T X μ :=
  O.more O.F O.N fun _ h => h
section
variable {C : Cx} {n : Nat} {A A₀ : Around} {fenv : Env} {outer : List Env} {h₀ : Heap} {L : Addr} {s : Shared} {m : Str → Option Value} {T : Led} {X : List Addr} {μ : Mem} {Q : Value → Shared → Prop} {E : Value → Shared → Prop} {k : KE}
theorem PE.here (P : PE C h₀ L s m T X μ k Q) (O : Ok C h₀ L s m T X μ) {v : Value} {d : D} (tk : Nat) (r : Rd C.B T X v d) (hk : k d μ) : Q v { s with toks := tk } :=
  P v d s.heap tk T X μ (O.same tk) (.refl ..) r hk
theorem PE.here0 (P : PE C h₀ L s m T X μ k Q) (O : Ok C h₀ L s m T X μ) {v : Value} {d : D} (r : Rd C.B T X v d) (hk : k d μ) : Q v s := P.here O s.toks r hk
theorem PE.made (P : PE C h₀ L s m T X μ k Q) (O : Ok C h₀ L s m T X μ) {h' : Heap} {tk : Nat} {p : Addr × Obj} {v : Value} {d : D} (F : Fr h₀ L h' m) (N : News h₀ L h' (p :: T)) (r : Rd C.B (p :: T) X v d) (hk : k d μ) : Q v { s with heap := h', toks := tk } :=
  P v d h' tk (p :: T) X μ (O.more F N fun _ h => .tail _ h) (.cons p) r hk
theorem PE.heap (P : PE C h₀ L s m T X μ k Q) (O : Ok C h₀ L s m T X μ) {h' : Heap} {tk : Nat} {v : Value} {d : D} (F : Fr h₀ L h' m) (N : News h₀ L h' T) (r : Rd C.B T X v d) (hk : k d μ) : Q v { s with heap := h', toks := tk } :=
  P v d h' tk T X μ (O.more F N fun _ h => h) (.refl ..) r hk
theorem rd_int {v : Value} {i : Int} (h : Rd C.B T X v (.int i)) : ∃ t, v = .int i t := by exact h
theorem rd_str {v : Value} {x : Str} (h : Rd C.B T X v (.str x)) : ∃ t, v = .str x t := by exact h
theorem rd_bool {v : Value} {b : Bool} (h : Rd C.B T X v (.bool b)) : v = .bool b := by exact h
theorem rd_none {v : Value} (h : Rd C.B T X v .none) : v = .none := by exact h
theorem rd_mref {v : Value} {a : Addr} (h : Rd C.B T X v (.mref a)) : v = .ref a := by exact h
theorem to_int {i : Int} {t : Tok} : Rd C.B T X (.int i t) (.int i) := by exact ⟨t, rfl⟩
theorem to_str {x : Str} {t : Tok} : Rd C.B T X (.str x t) (.str x) := by exact ⟨t, rfl⟩
theorem to_bool {b : Bool} : Rd C.B T X (.bool b) (.bool b) := by rfl
theorem to_none : Rd C.B T X .none .none := by rfl
theorem to_mref {a : Addr} : Rd C.B T X (.ref a) (.mref a) := by rfl
theorem rd_list {v : Value} {xs : List D} (O : Ok C h₀ L s m T X μ) (h : Rd C.B T X v (.list xs)) : ∃ a vs, v = .ref a ∧ s.heap.IsList a vs.toArray ∧ Rds C.B T X vs xs := by
  obtain ⟨a, o, vs, n, e, q, c, d, r⟩ := h
  exact ⟨a, vs, e, ⟨o, O.has q, c, n, d⟩, r⟩
theorem rd_tup {v : Value} {xs : List D} (O : Ok C h₀ L s m T X μ) (h : Rd C.B T X v (.tup xs)) : ∃ a vs, v = .ref a ∧ IsTup s.heap a vs.toArray ∧ Rds C.B T X vs xs := by
  obtain ⟨a, o, vs, n, e, q, c, d, r⟩ := h
  exact ⟨a, vs, e, ⟨o, O.has q, c, n, d⟩, r⟩
theorem to_list {a : Addr} {vs : List Value} {xs : List D} {n : Nat} (hx : a ∉ X) (r : Rds C.B ((a, { cls := .type "list", data := .seq vs.toArray n }) :: T) X vs xs) : Rd C.B ((a, { cls := .type "list", data := .seq vs.toArray n }) :: T) X (.ref a) (.list xs) := by
  exact ⟨a, _, vs, n, rfl, .inr ⟨.head _, hx⟩, rfl, rfl, r⟩
theorem to_tup {a : Addr} {vs : List Value} {xs : List D} {n : Nat} (hx : a ∉ X) (r : Rds C.B ((a, { cls := .type "tuple", data := .seq vs.toArray n }) :: T) X vs xs) : Rd C.B ((a, { cls := .type "tuple", data := .seq vs.toArray n }) :: T) X (.ref a) (.tup xs) := by
  exact ⟨a, _, vs, n, rfl, .inr ⟨.head _, hx⟩, rfl, rfl, r⟩
theorem rds1 {vs : List Value} {d : D} (h : Rds C.B T X vs [d]) : ∃ v, vs = [v] ∧ Rd C.B T X v d := by
  obtain ⟨v, r, rfl, a, b⟩ := h
  cases b
  exact ⟨v, rfl, a⟩
theorem inInt {v : Value} {d : D} {k : Int → Prop} (h : onInt d k) (r : Rd C.B T X v d) : ∃ i t, v = .int i t ∧ k i := by
  cases d <;> first
    | exact h.elim
    | (obtain ⟨t, rfl⟩ := rd_int r; exact ⟨_, t, rfl, h⟩)
theorem inStr {v : Value} {d : D} {k : Str → Prop} (h : onStr d k) (r : Rd C.B T X v d) : ∃ i t, v = .str i t ∧ k i := by
  cases d <;> first
    | exact h.elim
    | (obtain ⟨t, rfl⟩ := rd_str r; exact ⟨_, t, rfl, h⟩)
theorem inBl {v : Value} {d : D} {k : Bool → Prop} (h : onBl d k) (r : Rd C.B T X v d) : ∃ i, v = .bool i ∧ k i := by
  cases d <;> first
    | exact h.elim
    | exact ⟨_, rd_bool r, h⟩
theorem bl_of {d : D} {k : Bool → Prop} (h : onBl d k) : ∃ b, d = .bool b := by
  cases d <;> first
    | exact h.elim
    | exact ⟨_, rfl⟩
theorem onLst_inv {d : D} {k : List D → Prop} (h : onLst d k) : ∃ b, d = .list b ∧ k b := by
  cases d <;> first
    | exact h.elim
    | exact ⟨_, rfl, h⟩
theorem onInt_inv {d : D} {k : Int → Prop} (h : onInt d k) : ∃ b, d = .int b ∧ k b := by
  cases d <;> first
    | exact h.elim
    | exact ⟨_, rfl, h⟩
theorem inRef {v : Value} {d : D} {k : Addr → Prop} (h : onRef d k) (r : Rd C.B T X v d) : ∃ i, v = .ref i ∧ k i := by
  cases d <;> first
    | exact h.elim
    | exact ⟨_, rd_mref r, h⟩
theorem inNone {v : Value} {d : D} {k : Prop} (h : onNone d k) (r : Rd C.B T X v d) : v = .none ∧ k := by
  cases d <;> first
    | exact h.elim
    | exact ⟨rd_none r, h⟩
theorem inLst {v : Value} {d : D} {k : List D → Prop} (O : Ok C h₀ L s m T X μ) (h : onLst d k) (r : Rd C.B T X v d) : ∃ xs a vs, v = .ref a ∧ s.heap.IsList a vs.toArray ∧ Rds C.B T X vs xs ∧ k xs := by
  cases d <;> first
    | exact h.elim
    | (obtain ⟨a, vs, e, hl, hr⟩ := rd_list O r; exact ⟨_, a, vs, e, hl, hr, h⟩)
theorem in1 {vs : List Value} {ds : List D} {k : D → Prop} (h : on1D ds k) (r : Rds C.B T X vs ds) : ∃ d v, vs = [v] ∧ Rd C.B T X v d ∧ k d := by
  cases ds with
  | nil => exact h.elim
  | cons d ds =>
    cases ds with
    | cons _ _ => exact h.elim
    | nil => obtain ⟨v, rfl, a⟩ := rds1 r; exact ⟨d, v, rfl, a, h⟩
theorem in2 {vs : List Value} {ds : List D} {k : D → D → Prop} (h : on2D ds k) (r : Rds C.B T X vs ds) : ∃ d e v u, vs = [v, u] ∧ Rd C.B T X v d ∧ Rd C.B T X u e ∧ k d e := by
  cases ds with
  | nil => exact h.elim
  | cons d ds =>
    obtain ⟨v, r', rfl, a, b⟩ := r
    obtain ⟨e, u, rfl, c, h⟩ := in1 h b
    exact ⟨d, e, v, u, rfl, a, c, h⟩
theorem inIO {v : Value} {d : D} {k : Int → Option Bool} {r : Bool} (h : onIO d k = some r) (x : Rd C.B T X v d) : ∃ i t, v = .int i t ∧ k i = some r := by
  cases d <;> first
    | (cases h; done)
    | (obtain ⟨t, rfl⟩ := rd_int x; exact ⟨_, t, rfl, h⟩)
theorem inSO {v : Value} {d : D} {k : Str → Option Bool} {r : Bool} (h : onSO d k = some r) (x : Rd C.B T X v d) : ∃ i t, v = .str i t ∧ k i = some r := by
  cases d <;> first
    | (cases h; done)
    | (obtain ⟨t, rfl⟩ := rd_str x; exact ⟨_, t, rfl, h⟩)
end
section
variable {C : Cx} {n : Nat} {A A₀ : Around} {fenv : Env} {outer : List Env} {h₀ : Heap} {L : Addr} {s : Shared} {m : Str → Option Value} {T : Led} {X : List Addr} {μ : Mem} {Q : Value → Shared → Prop} {E : Value → Shared → Prop} {k : KE}
theorem ints_of {vs : List Value} : ∀ {ns : List Int} {vs : List Value}, Rds C.B T X vs (ns.map .int) → IntsAre vs ns
  | [], vs, h => by simp only [List.map_nil] at h; cases h; exact .nil
  | i :: ns, vs, h => by
    simp only [List.map_cons] at h
    obtain ⟨v, r, rfl, a, b⟩ := h
    obtain ⟨t, rfl⟩ := rd_int a
    exact .cons i t (ints_of (vs := vs) b)
theorem of_ints : ∀ {ns : List Int} {vs : List Value}, IntsAre vs ns → Rds C.B T X vs (ns.map .int)
  | _, _, .nil => by simp only [List.map_nil]; exact .nil
  | _, _, .cons i t h => by simp only [List.map_cons]; exact .cons to_int (of_ints h)
theorem strs_of : ∀ {ts : List Str} {vs : List Value}, Rds C.B T X vs (ts.map .str) → ∃ l : List (Str × Tok), vs = strValues l ∧ l.map (·.1) = ts
  | [], vs, h => by simp only [List.map_nil] at h; cases h; exact ⟨[], rfl, rfl⟩
  | i :: ns, vs, h => by
    simp only [List.map_cons] at h
    obtain ⟨v, r, rfl, a, b⟩ := h
    obtain ⟨t, rfl⟩ := rd_str a
    obtain ⟨l, rfl, e⟩ := strs_of b
    exact ⟨(i, t) :: l, rfl, by rw [List.map_cons, e]⟩
theorem of_strs : ∀ (l : List (Str × Tok)), Rds C.B T X (strValues l) ((l.map (·.1)).map .str)
  | [] => by simp only [strValues, List.map_nil]; exact .nil
  | (i, t) :: l => by
    show Rds C.B T X (.str i t :: strValues l) (.str i :: (l.map (·.1)).map .str)
    exact .cons to_str (of_strs l)
noncomputable def opOf : Bop → PySem.Operator
  | .add => .Add | .sub => .Sub | .mul => .Mult | .fdiv => .FloorDiv | .mod => .Mod | .pow => .Pow | .cat => .Add
theorem lift_cons (O : Ok C h₀ L s m T X μ) (p : Addr × Obj) : Lift C.B T X (p :: T) X := (Stp.cons (Mu := keys μ) p).lift O.sub
theorem bin_sound (O : Ok C h₀ L s m T X μ) {o : Bop} {a b : D} {va vb : Value} (ra : Rd C.B T X va a) (rb : Rd C.B T X vb b)
    (v : binD o a b fun r => k r μ) (P : PE C h₀ L s m T X μ k Q) : wpAny (model C.prog C.w) A (binaryOp (opOf o) va vb) Q E s := by
  cases o with
  | add =>
    cases a with
    | int a =>
      obtain ⟨t, rfl⟩ := rd_int ra
      obtain ⟨b, u, rfl, v⟩ := inInt v rb
      exact add_int (P.here O _ to_int v)
    | str x =>
      obtain ⟨t, rfl⟩ := rd_str ra
      obtain ⟨y, u, rfl, v⟩ := inStr v rb
      exact add_str (fun t' tk => P.here O _ to_str v.2) v.1
    | list x =>
      obtain ⟨l, vs, rfl, hl, hr⟩ := rd_list O ra
      obtain ⟨y, l', us, rfl, hl', hr', v⟩ := inLst O v rb
      refine add_arrays O.F O.N hl hl' (fun h' F' N' => P.made O F' N' (to_list O.fresh ?_) v.2) ?_
      · exact Rds.lift (lift_cons O _) _ _ (Rds.append hr hr')
      · rw [List.size_toArray, List.size_toArray, hr.length, hr'.length]; exact v.1
    | _ => exact v.elim
  | mul =>
    cases a with
    | int a =>
      obtain ⟨t, rfl⟩ := rd_int ra
      obtain ⟨b, u, rfl, v⟩ := inInt v rb
      exact mul_int (P.here O _ to_int v.2) v.1
    | str x =>
      obtain ⟨t, rfl⟩ := rd_str ra
      obtain ⟨b, u, rfl, h1, h2, h3, h4⟩ := inInt v rb
      exact KXi.mul rfl h1 (by clear ra rb P; (clear h3 h1; lia)) (by clear ra rb P; (clear h2 h1; lia)) fun t' tk _ _ => P.here O _ to_str h4
    | _ => exact v.elim
  | cat => exact v.elim
  | sub =>
    obtain ⟨a, t, rfl, v⟩ := inInt v ra
    obtain ⟨b, u, rfl, v⟩ := inInt v rb
    exact sub_int (P.here O _ to_int v)
  | fdiv =>
    obtain ⟨a, t, rfl, v⟩ := inInt v ra
    obtain ⟨b, u, rfl, v⟩ := inInt v rb
    exact floordiv_int v.1 (P.here O _ to_int v.2.2) (Or.inl (PyProof.noPylong_small v.2.1))
  | mod =>
    obtain ⟨a, t, rfl, v⟩ := inInt v ra
    obtain ⟨b, u, rfl, v⟩ := inInt v rb
    exact mod_int v.1 (P.here O _ to_int v.2)
  | pow =>
    obtain ⟨a, t, rfl, v⟩ := inInt v ra
    obtain ⟨b, u, rfl, v⟩ := inInt v rb
    exact pow_int_small v.1 v.2.1 v.2.2.1 (P.here O _ to_int v.2.2.2)
noncomputable def copOf : Cop → CmpOp
  | .eq => .Eq | .ne => .NotEq | .lt => .Lt | .le => .LtE | .gt => .Gt | .ge => .GtE
theorem cmp_sound (O : Ok C h₀ L s m T X μ) {o : Cop} {a b : D} {va vb : Value} {r : Bool} (ra : Rd C.B T X va a) (rb : Rd C.B T X vb b)
    (v : cmpD o a b = some r) (hq : Q (.bool r) s) : wpAny (model C.prog C.w) A (compareOp (copOf o) va vb) Q E s := by
  cases o with
  | eq =>
    cases a with
    | int a =>
      obtain ⟨t, rfl⟩ := rd_int ra
      obtain ⟨b, u, rfl, v⟩ := inIO v rb
      cases v
      exact eq_int hq
    | str a =>
      obtain ⟨t, rfl⟩ := rd_str ra
      obtain ⟨b, u, rfl, v⟩ := inSO v rb
      cases v
      exact eq_str hq
    | _ => cases v
  | ne =>
    cases a with
    | int a =>
      obtain ⟨t, rfl⟩ := rd_int ra
      obtain ⟨b, u, rfl, v⟩ := inIO v rb
      cases v
      exact ne_int hq
    | str a =>
      obtain ⟨t, rfl⟩ := rd_str ra
      obtain ⟨b, u, rfl, v⟩ := inSO v rb
      cases v
      exact ne_str hq
    | _ => cases v
  | lt =>
    obtain ⟨a, t, rfl, v⟩ := inIO v ra
    obtain ⟨b, u, rfl, v⟩ := inIO v rb
    cases v
    exact lt_int hq
  | le =>
    obtain ⟨a, t, rfl, v⟩ := inIO v ra
    obtain ⟨b, u, rfl, v⟩ := inIO v rb
    cases v
    exact le_int hq
  | gt =>
    obtain ⟨a, t, rfl, v⟩ := inIO v ra
    obtain ⟨b, u, rfl, v⟩ := inIO v rb
    cases v
    exact gt_int hq
  | ge =>
    obtain ⟨a, t, rfl, v⟩ := inIO v ra
    obtain ⟨b, u, rfl, v⟩ := inIO v rb
    cases v
    exact ge_int hq
theorem in_sound (O : Ok C h₀ L s m T X μ) {ng : Bool} {a b : D} {va vb : Value} {r : Bool} (ra : Rd C.B T X va a) (rb : Rd C.B T X vb b)
    (v : inD a b = some r) (hq : Q (.bool (r != ng)) s) : wpAny (model C.prog C.w) A (compareOp (if ng then .NotIn else .In) va vb) Q E s := by
  cases b with
  | str y =>
    obtain ⟨u, rfl⟩ := rd_str rb
    obtain ⟨x, t, rfl, v⟩ := inSO v ra
    cases v
    cases ng
    · refine in_str ?_
      rw [Bool.bne_false] at hq; exact hq
    · refine notIn_str ?_
      rw [Bool.bne_true] at hq; exact hq
  | tup ds =>
    obtain ⟨l, vs, rfl, hl, hr⟩ := rd_tup O rb
    obtain ⟨i, t, rfl, v⟩ := inIO v ra
    cases ds with
    | nil => cases v
    | cons d ds =>
    cases ds with
    | nil => cases v
    | cons d' ds =>
    cases ds with
    | cons _ _ => cases v
    | nil =>
    have hr' := hr
    obtain ⟨w, r, rfl, r1, r2⟩ := hr'
    obtain ⟨w', rfl, r3⟩ := rds1 r2
    obtain ⟨p, t1, rfl, v⟩ := inIO v r1
    obtain ⟨q, t2, rfl, v⟩ := inIO v r3
    cases v
    have hi : IntsAre [Value.int p t1, Value.int q t2] [p, q] := .cons _ _ (.cons _ _ .nil)
    have e : ([p, q].any (· == i)) = (p == i || q == i) := by simp
    cases ng
    · refine in_tuple_ints hl hi ?_
      rw [e]; rw [Bool.bne_false] at hq; exact hq
    · refine notin_tuple_ints hl hi ?_
      rw [e]; rw [Bool.bne_true] at hq; exact hq
  | _ => cases v
end
section
variable {C : Cx} {n : Nat} {A A₀ : Around} {fenv : Env} {outer : List Env} {h₀ : Heap} {L : Addr} {s : Shared} {m : Str → Option Value} {T : Led} {X : List Addr} {μ : Mem} {Q : Value → Shared → Prop} {E : Value → Shared → Prop} {k : KE}
noncomputable def updT (T : Led) (a : Addr) (o : Obj) : Led := (a, o) :: T.filter fun p => decide (p.1 ≠ a)
theorem mem_updT {T : Led} {a : Addr} {o : Obj} {p : Addr × Obj} (h : p ∈ T) (e : p.1 ≠ a) : p ∈ updT T a o := by
  unfold updT; exact .tail _ (List.mem_filter.mpr ⟨h, by simpa using e⟩)
theorem of_updT {T : Led} {a : Addr} {o : Obj} {p : Addr × Obj} (h : p ∈ updT T a o) : p = (a, o) ∨ (p ∈ T ∧ p.1 ≠ a) := by
  unfold updT at h
  rcases List.mem_cons.mp h with h | h
  · exact .inl h
  · have := List.mem_filter.mp h
    exact .inr ⟨this.1, by simpa using this.2⟩
theorem updT_upd {T : Led} {a : Addr} {o o' : Obj} : Upd a o o' (updT T a o) (updT T a o') := by
  unfold updT
  exact Upd.head fun p hp => by simpa using (List.mem_filter.mp hp).2
theorem lookM_mem : ∀ {μ : Mem} {a : Addr} {o : MO}, lookM μ a = some o → (a, o) ∈ μ
  | [], _, _, h => by simp [lookM] at h
  | (b, o') :: r, a, o, h => by
    rw [look_c] at h
    by_cases e : b = a
    · rw [if_pos e] at h; cases h; subst e; exact .head _
    · rw [if_neg e] at h; exact .tail _ (lookM_mem h)
theorem keys_setM (μ : Mem) (a : Addr) (o : MO) : keys (setM μ a o) = keys μ := by
  unfold keys setM
  rw [List.map_map]
  refine List.map_congr_left fun p _ => ?_
  by_cases e : p.1 = a
  · simp [e]
  · simp [e]
theorem look_lst {a : Addr} {k : List D → Prop} (h : match (generalizing := false) lookM μ a with | some (.lst xs) => k xs | _ => False) : ∃ xs, lookM μ a = some (.lst xs) ∧ k xs := by
  cases e : lookM μ a with
  | none => rw [e] at h; exact h.elim
  | some o =>
    rw [e] at h
    cases o with
    | lst xs => exact ⟨xs, rfl, h⟩
    | dict kvs => exact h.elim
theorem Ok.mut (O : Ok C h₀ L s m T X μ) {a : Addr} {xs : List D} (h : lookM μ a = some (.lst xs)) : ∃ vs n, (a, listOf vs.toArray n) ∈ T ∧ Rds C.B T X vs xs ∧ vs.length ≤ sizeLine ∧ a ∈ X ∧ a ∈ keys μ := by
  have hm := lookM_mem h
  have := O.M _ hm
  unfold MOk at this
  obtain ⟨vs, n, h1, h2, h3⟩ := this
  have hk : a ∈ keys μ := List.mem_map_of_mem (f := (·.1)) hm
  exact ⟨vs, n, h1, h2, h3, O.sub _ hk, hk⟩
theorem Ok.updN (O : Ok C h₀ L s m T X μ) {a : Addr} {o : Obj} (h : (a, o) ∈ T) : News h₀ L s.heap (updT T a o) := fun p hp => by
  rcases of_updT hp with rfl | ⟨h, _⟩
  · exact O.N _ h
  · exact O.N _ h
theorem stp_upd {a : Addr} {o : Obj} (ha : a ∈ keys μ) (hs : ∀ a ∈ keys μ, a ∈ X) {μ' : Mem} (hk : keys μ' = keys μ) : Stp T X (keys μ) (updT T a o) X (keys μ') :=
  ⟨fun p hp hn => mem_updT hp fun e => hn (e ▸ ha), fun _ h => h, fun _ _ h => h, fun _ _ h => hk ▸ h, fun _ h => hk ▸ h⟩
theorem lift_upd {a : Addr} {o : Obj} (ha : a ∈ X) : Lift C.B T X (updT T a o) X := ⟨fun b o' h => by
  rcases h with h | ⟨h, hx⟩
  · exact .inl h
  · exact .inr ⟨mem_updT h fun e => hx (by subst e; exact ha), hx⟩⟩
theorem MOk.upd {x : Addr × MO} {a : Addr} {o : Obj} (h : MOk C T X x) (hx : a ∈ X) (q : x.1 ≠ a) : MOk C (updT T a o) X x := by
  have l := lift_upd (C := C) (T := T) (o := o) hx
  unfold MOk at h ⊢
  obtain ⟨b, mo⟩ := x
  cases mo with
  | lst ys =>
    obtain ⟨us, n', h1, h2, h3⟩ := h
    exact ⟨us, n', mem_updT h1 q, Rds.lift l _ _ h2, h3⟩
  | dict kvs =>
    obtain ⟨o', us, h1, h2, h3, h4, h5⟩ := h
    exact ⟨o', us, mem_updT h1 q, h2, h3, Rds.lift l _ _ h4, h5⟩
theorem Ok.updO (O : Ok C h₀ L s m T X μ) {a : Addr} {o : Obj} {mo : MO} {h' : Heap} {tk : Nat} (ha : a ∈ keys μ) (F : Fr h₀ L h' m) (N : News h₀ L h' (updT T a o))
    (r : MOk C (updT T a o) X (a, mo)) : Ok C h₀ L { s with heap := h', toks := tk } m (updT T a o) X (setM μ a mo) := by
  have hx := O.sub _ ha
  refine ⟨F, N, fun x hxm => ?_, fun b hb => ?_, fun b hb => ?_, O.st⟩
  · unfold setM at hxm
    obtain ⟨p, hp, e⟩ := List.mem_map.mp hxm
    by_cases q : p.1 = a
    · rw [if_pos q] at e; subst e; exact r
    · rw [if_neg q] at e; subst e
      exact (O.M _ hp).upd hx q
  · rw [keys_setM] at hb; exact O.sub _ hb
  · by_cases q : b = a
    · subst q; exact ⟨_, .head _⟩
    · obtain ⟨o, ho⟩ := O.xin b hb
      exact ⟨o, mem_updT ho q⟩
theorem Ok.upd (O : Ok C h₀ L s m T X μ) {a : Addr} {vs : List Value} {n : Nat} {xs : List D} {h' : Heap} {tk : Nat} (ha : a ∈ keys μ) (F : Fr h₀ L h' m) (N : News h₀ L h' (updT T a (listOf vs.toArray n)))
    (r : Rds C.B T X vs xs) (hz : vs.length ≤ sizeLine) : Ok C h₀ L { s with heap := h', toks := tk } m (updT T a (listOf vs.toArray n)) X (setM μ a (.lst xs)) :=
  O.updO ha F N ⟨vs, n, .head _, Rds.lift (lift_upd (O.sub _ ha)) _ _ r, hz⟩
theorem PE.upd (P : PE C h₀ L s m T X μ k Q) (O : Ok C h₀ L s m T X μ) {a : Addr} {vs : List Value} {n : Nat} {xs : List D} {h' : Heap} {tk : Nat} (ha : a ∈ keys μ) (F : Fr h₀ L h' m) (N : News h₀ L h' (updT T a (listOf vs.toArray n)))
    (r : Rds C.B T X vs xs) (hz : vs.length ≤ sizeLine) {v : Value} {d : D} (rv : Rd C.B T X v d) (hk : k d (setM μ a (.lst xs))) : Q v { s with heap := h', toks := tk } :=
  P v d h' tk _ X _ (O.upd ha F N r hz) (stp_upd ha O.sub (keys_setM ..)) (Rd.lift (lift_upd (O.sub _ ha)) _ _ rv) hk
theorem getAt_spec {α : Type} {R : Value → D → Prop} {ds : List D} {vs : List Value} (r : Rds C.B T X vs ds) (hz : ds.length ≤ sizeLine) {i : Int} {d : D} (h : getAt ds i = some d) :
    ∃ v, Rd C.B T X v d ∧ -(2 ^ 63 : Int) ≤ i ∧ i < 2 ^ 63 ∧ ((0 ≤ i ∧ vs[i.toNat]? = some v) ∨ (i < 0 ∧ -(vs.length : Int) ≤ i ∧ vs[(i + vs.length).toNat]? = some v)) := by
  have hl := r.length
  rw [sizeLine_eq] at hz
  unfold getAt at h
  by_cases h0 : 0 ≤ i
  · rw [if_pos h0] at h
    obtain ⟨v, hv, rv⟩ := r.get _ _ h
    have : i.toNat < ds.length := (List.getElem?_eq_some_iff.mp h).1
    exact ⟨v, rv, by (clear this hl hz; lia), by (clear h0 hl; lia), .inl ⟨h0, hv⟩⟩
  · rw [if_neg h0] at h
    by_cases h1 : 0 ≤ i + ds.length
    · rw [if_pos h1] at h
      obtain ⟨v, hv, rv⟩ := r.get _ _ h
      exact ⟨v, rv, by (clear hl; lia), by (clear hl hz; lia), .inr ⟨by (clear hl hz; lia), by (clear hz; lia), by rw [hl]; exact hv⟩⟩
    · rw [if_neg h1] at h; cases h
theorem seqIndex_pos {i : Int} {n : Nat} (h0 : 0 ≤ i) (h1 : i < n) : seqIndex? i n = some i.toNat := by
  unfold seqIndex?
  have : ¬ i < 0 := by lia
  simp only [this, if_false]
  rw [if_pos (by simp; lia)]
theorem seqIndex_negI {i : Int} {n : Nat} (h0 : i < 0) (h1 : -(n : Int) ≤ i) : seqIndex? i n = some (i + n).toNat := PySem.seqIndex_neg h0 h1
theorem idx_sound (O : Ok C h₀ L s m T X μ) {d i : D} {vd vi : Value} {value slice : PySem.Expr} (rd : Rd C.B T X vd d) (ri : Rd C.B T X vi i) (hsl : ∀ o i, subscripted slice false o i = operate [o, i] (getItem o i))
    (v : idxD d i μ fun r => k r μ) (P : PE C h₀ L s m T X μ k Q) : wpAny (model C.prog C.w) A (subscriptTail value slice vd vi) Q E s := by
  refine kba_turn (value' := .Name (Str.ofString "x") default) (fun r => rfl) ?_
  obtain ⟨i, u, rfl, v⟩ := inInt v ri
  cases d with
  | list xs =>
    obtain ⟨l, vs, rfl, hl, hr⟩ := rd_list O rd
    obtain ⟨hz, w, hw, hk⟩ := v
    obtain ⟨v, rv, hlo, hhi, h⟩ := getAt_spec (C := C) (α := Nat) (R := fun _ _ => True) hr hz hw
    rcases h with ⟨h0, h1⟩ | ⟨h0, h1, h2⟩
    · exact item_listL hl h0 hhi h1 (P.here0 O rv hk) (hsl _ _)
    · exact kde_neg hl h0 hlo (seqIndex_negI h0 h1) h2 (P.here0 O rv hk) (hsl _ _)
  | tup xs =>
    obtain ⟨l, vs, rfl, hl, hr⟩ := rd_tup O rd
    obtain ⟨hz, w, hw, hk⟩ := v
    obtain ⟨v, rv, hlo, hhi, h⟩ := getAt_spec (C := C) (α := Nat) (R := fun _ _ => True) hr hz hw
    rcases h with ⟨h0, h1⟩ | ⟨h0, h1, h2⟩
    · exact item_tupleL hl hlo hhi (seqIndex_pos h0 (by have := (List.getElem?_eq_some_iff.mp h1).1; (clear h0 hhi hlo hz; lia))) h1 (P.here0 O rv hk) (hsl _ _)
    · exact item_tupleL hl hlo hhi (seqIndex_negI h0 h1) h2 (P.here0 O rv hk) (hsl _ _)
  | str x =>
    obtain ⟨t, rfl⟩ := rd_str rd
    obtain ⟨hz, h0, h1, hk⟩ := v
    rw [sizeLine_eq] at hz
    exact KXi.item rfl h0 h1 hz (fun _ => P.here O _ to_str hk) (hsl _ _)
  | mref a =>
    obtain rfl := rd_mref rd
    obtain ⟨xs, hM, v⟩ := look_lst (k := fun xs => ∃ v, getAt xs i = some v ∧ k v μ) v
    · obtain ⟨vs, n, hT, hr, hz, _⟩ := O.mut hM
      obtain ⟨w, hw, hk⟩ := v
      obtain ⟨v, rv, hlo, hhi, h⟩ := getAt_spec (C := C) (α := Nat) (R := fun _ _ => True) hr (hr.length ▸ hz) hw
      have hl : s.heap.IsList _ vs.toArray := ⟨_, (O.N _ hT).1, rfl, n, rfl⟩
      rcases h with ⟨h0, h1⟩ | ⟨h0, h1, h2⟩
      · exact item_listL hl h0 hhi h1 (P.here0 O rv hk) (hsl _ _)
      · exact kde_neg hl h0 hlo (seqIndex_negI h0 h1) h2 (P.here0 O rv hk) (hsl _ _)
  | _ => exact v.elim
theorem pick_rds {vs : List Value} {ds : List D} (r : Rds C.B T X vs ds) (lo hi : Option Int) : Rds C.B T X (slicePick vs.toArray lo hi Option.none).toList (pick ds lo hi) := by
  rw [kms_pick_eq]
  show Rds C.B T X (kms_pick vs lo hi) (pick ds lo hi)
  unfold kms_pick pick
  rw [r.length]
  exact (r.drop _).take _
theorem slc_sound (O : Ok C h₀ L s m T X μ) {d : D} {vd vl vu : Value} {lo hi : Option Int} {value el eu : PySem.Expr} {oel oeu : Option PySem.Expr} {p : Pos} (rd : Rd C.B T X vd d) (pl : IsPart vl lo) (pu : IsPart vu hi)
    (v : slcD d lo hi fun r => k r μ) (P : PE C h₀ L s m T X μ k Q) : wpAny (model C.prog C.w) A (subscriptTail value (.Slice oel oeu Option.none p) vd (.ref s.heap.objs.size)) Q E
      { s with heap := s.heap.push { cls := .type "slice", data := .fields #[vl, vu, .none] } } := by
  refine kba_turn (value' := .Name (Str.ofString "x") default) (fun r => rfl) ?_
  cases d with
  | list xs =>
    obtain ⟨l, vs, rfl, hl, hr⟩ := rd_list O rd
    refine kmk_slice O.F O.N hl pl pu (fun D h' F' N' lt => ?_) rfl (fun _ => rfl) (by rw [List.size_toArray, hr.length]; exact v.1)
    have hx : D ∉ X := fun h => by
      obtain ⟨o, ho⟩ := O.xin _ h
      exact Nat.lt_irrefl _ (lt _ ho)
    have e : slicePick vs.toArray lo hi Option.none = (slicePick vs.toArray lo hi Option.none).toList.toArray := by simp
    rw [e] at N'
    exact P.made O (tk := s.toks) F' N' (to_list hx (Rds.lift (lift_cons O _) _ _ (pick_rds hr lo hi))) v.2
  | str x =>
    obtain ⟨t, rfl⟩ := rd_str rd
    cases pl <;> cases pu
    · exact slice_strN_nn O.F O.N (fun h' t' tk F' N' => P.heap O F' N' to_str v.2) rfl (fun _ => rfl) v.1
    · exact slice_strN_ns O.F O.N (fun h' t' tk F' N' => P.heap O F' N' to_str v.2) rfl (fun _ => rfl) v.1
    · exact slice_strN_sn O.F O.N (fun h' t' tk F' N' => P.heap O F' N' to_str v.2) rfl (fun _ => rfl) v.1
    · exact slice_strN_ss O.F O.N (fun h' t' tk F' N' => P.heap O F' N' to_str v.2) rfl (fun _ => rfl) v.1
  | _ => exact v.elim
theorem rev_sound (O : Ok C h₀ L s m T X μ) {d : D} {xs : List D} {vd : Value} {t : Tok} {value : PySem.Expr} {ku : PySem.Expr} {p : Pos} (hd : d = .list xs ∧ xs.length ≤ sizeLine ∨ ∃ a, d = .mref a ∧ lookM μ a = some (.lst xs)) (rd : Rd C.B T X vd d)
    (v : k (.list xs.reverse) μ) (P : PE C h₀ L s m T X μ k Q) : wpAny (model C.prog C.w) A (subscriptTail value (.Slice Option.none Option.none (some ku) p) vd (.ref s.heap.objs.size)) Q E
      { s with heap := s.heap.push { cls := .type "slice", data := .fields #[.none, .none, .int (-1) t] } } := by
  refine kba_turn (value' := .Name (Str.ofString "x") default) (fun r => rfl) ?_
  have key : ∃ l vs, vd = .ref l ∧ s.heap.IsList l vs.toArray ∧ Rds C.B T X vs xs ∧ vs.length ≤ sizeLine := by
    rcases hd with ⟨rfl, hz⟩ | ⟨a, rfl, hM⟩
    · obtain ⟨l, vs, e, hl, hr⟩ := rd_list O rd
      exact ⟨l, vs, e, hl, hr, hr.length ▸ hz⟩
    · obtain rfl := rd_mref rd
      obtain ⟨vs, n, hT, hr, hz, _⟩ := O.mut hM
      exact ⟨a, vs, rfl, ⟨_, (O.N _ hT).1, rfl, n, rfl⟩, hr, hz⟩
  obtain ⟨l, vs, rfl, hl, hr, hz⟩ := key
  refine krv_lit (ops := [.ref l, .ref s.heap.objs.size]) O.F O.N hl (.int (-1) t) (zs := vs.reverse) rfl (fun D h' F' N' lt => ?_) rfl (fun _ => rfl) (by rw [List.size_toArray]; exact hz)
  have hx : D ∉ X := fun h => by
    obtain ⟨o, ho⟩ := O.xin _ h
    exact Nat.lt_irrefl _ (lt _ ho)
  exact P.made O (tk := s.toks) F' N' (to_list hx (Rds.lift (lift_cons O _) _ _ hr.reverse)) v
end
open Builtin Builtin.Str
section
variable {C : Cx} {n : Nat} {A A₀ : Around} {fenv : Env} {outer : List Env} {h₀ : Heap} {L : Addr} {s : Shared} {m : Str → Option Value} {T : Led} {X : List Addr} {μ : Mem} {Q : Value → Shared → Prop} {E : Value → Shared → Prop} {k : KE}
noncomputable def biName : Bi → String
  | .len => "len" | .abs => "abs" | .ord => "ord" | .chr => "chr" | .sorted => "sorted" | .max => "max" | .all => "all"
noncomputable def mkName : Mk → String
  | .split => "split" | .join => "join" | .strip => "strip" | .lstrip => "lstrip" | .rstrip => "rstrip" | .count => "count" | .pop0 => "pop" | .append => "append" | .get => "get"
noncomputable def mkId : Mk → String
  | .split => "str.split" | .join => "str.join" | .strip => "str.strip" | .lstrip => "str.lstrip" | .rstrip => "str.rstrip" | .count => "str.count" | .pop0 => "list.pop" | .append => "list.append" | .get => "dict.get"
theorem rds2 {vs : List Value} {d e : D} (h : Rds C.B T X vs [d, e]) : ∃ v u, vs = [v, u] ∧ Rd C.B T X v d ∧ Rd C.B T X u e := by
  obtain ⟨v, r, rfl, a, b⟩ := h
  obtain ⟨u, rfl, c⟩ := rds1 b
  exact ⟨v, u, rfl, a, c⟩
theorem bools_of : ∀ {bs : List Bool} {vs : List Value}, Rds C.B T X vs (bs.map .bool) → LSm.BoolsAre vs bs
  | [], vs, h => by simp only [List.map_nil] at h; cases h; exact .nil
  | b :: bs, vs, h => by
    simp only [List.map_cons] at h
    obtain ⟨v, r, rfl, a, c⟩ := h
    obtain rfl := rd_bool a
    exact .cons b (bools_of c)
theorem perm_two {a b : Int} {l : List Int} (h : l.Perm [a, b]) (hs : l.Pairwise (· ≤ ·)) : l = [if b < a then b else a, if b < a then a else b] := by
  have hl := h.length_eq
  obtain ⟨x, y, rfl⟩ : ∃ x y, l = [x, y] := by
    match l, hl with
    | [x, y], _ => exact ⟨x, y, rfl⟩
  have hx : x ∈ [a, b] := h.mem_iff.mp (by simp)
  have hy : y ∈ [a, b] := h.mem_iff.mp (by simp)
  have ha : a ∈ [x, y] := h.mem_iff.mpr (by simp)
  have hb : b ∈ [x, y] := h.mem_iff.mpr (by simp)
  have hxy : x ≤ y := by simpa using hs
  simp only [List.mem_cons, List.not_mem_nil, or_false] at hx hy ha hb
  by_cases q : b < a
  · rw [if_pos q, if_pos q]
    simp only [List.cons.injEq, and_true]
    (clear hl; lia)
  · rw [if_neg q, if_neg q]
    simp only [List.cons.injEq, and_true]
    (clear hl hs; lia)
theorem sm63 {n : Nat} (h : n ≤ 16777216) : (n : Int) < 2 ^ 63 := by lia
theorem bi_sound (hh : A.handled = Option.none) (O : Ok C h₀ L s m T X μ) {b : Bi} {ds : List D} {vs : List Value} (r : Rds C.B T X vs ds)
    (v : biD b ds μ fun r => k r μ) (P : PE C h₀ L s m T X μ k Q) : wpAny (model C.prog C.w) A (call (.builtin (biName b)) vs) Q E s := by
  cases b with
  | len =>
    obtain ⟨d, u, rfl, a, v⟩ := in1 v r
    cases d with
    | str x =>
      obtain ⟨t, rfl⟩ := rd_str a
      obtain ⟨hz, hk⟩ := v
      rw [sizeLine_eq] at hz
      exact len_str (Int.not_le.mpr (sm63 hz)) (P.here O _ to_int hk)
    | list xs =>
      obtain ⟨l, us, rfl, hl, hr⟩ := rd_list O a
      obtain ⟨hz, hk⟩ := v
      rw [sizeLine_eq] at hz
      rw [← hr.length] at hz hk
      exact len_list hl (sm63 hz) (P.here O _ to_int hk)
    | mref b =>
      obtain rfl := rd_mref a
      obtain ⟨xs, hM, v⟩ := look_lst (k := fun xs => k (.int xs.length) μ) v
      obtain ⟨us, n, hT, hr, hz, _⟩ := O.mut hM
      rw [sizeLine_eq] at hz
      rw [← hr.length] at v
      exact len_list (l := b) (items := us.toArray) ⟨_, (O.N _ hT).1, rfl, n, rfl⟩ (sm63 hz) (P.here O _ to_int v)
    | _ => exact v.elim
  | abs =>
    obtain ⟨d, u, rfl, a, v⟩ := in1 v r
    obtain ⟨i, t, rfl, v⟩ := inInt v a
    exact call_abs_int fun u tk => P.here O _ to_int v
  | ord =>
    obtain ⟨d, u, rfl, a, v⟩ := in1 v r
    obtain ⟨x, t, rfl, c, rfl, hk⟩ := inStr v a
    exact PySem.P.ord_of_char (PE.here (C := C) P O _ to_int hk)
  | chr =>
    obtain ⟨d, u, rfl, a, v⟩ := in1 v r
    obtain ⟨i, t, rfl, h0, h1, hk⟩ := inInt v a
    exact chr_of_range h0 (Int.le_of_lt_add_one h1) (P.here O _ to_str hk)
  | sorted =>
    obtain ⟨d, u, rfl, a, v⟩ := in1 v r
    obtain ⟨xs, l, us, rfl, hl, hr, v⟩ := inLst O v a
    obtain ⟨d1, d2, v1, v2, rfl, r1, r2, v⟩ := in2 v hr
    obtain ⟨x, t1, rfl, v⟩ := inInt v r1
    obtain ⟨y, t2, rfl, v⟩ := inInt v r2
    have hi : IntsAre [Value.int x t1, Value.int y t2] [x, y] := .cons _ _ (.cons _ _ .nil)
    refine sorted_N O.F O.N hl hi (by decide : 2 < 64) fun h' vs' ns' e F' N' hi' hp hs => ?_
    obtain rfl := perm_two hp hs
    refine P.made O F' N' ?_ (v _ _ rfl rfl)
    have hx : s.heap.objs.size + 1 ∉ X := fun h => by
      obtain ⟨o, ho⟩ := O.xin _ h
      exact absurd (Heap.lt_size (O.N _ ho).1) (Nat.not_lt.mpr (Nat.le_succ _))
    exact to_list hx (of_ints (C := C) (T := (s.heap.objs.size + 1, seqObj "list" vs'.toArray e) :: T) (X := X) hi')
  | max =>
    obtain ⟨d1, d2, v1, v2, rfl, r1, r2, v⟩ := in2 v r
    obtain ⟨x, t1, rfl, v⟩ := inInt v r1
    obtain ⟨y, t2, rfl, v⟩ := inInt v r2
    exact max_two_N hh O.F O.N fun h' tk F' N' => P.heap O F' N' to_int v
  | all =>
    obtain ⟨d, u, rfl, a, v⟩ := in1 v r
    obtain ⟨xs, l, us, rfl, hl, hr, bs, rfl, hk⟩ := inLst O v a
    exact LSm.all_bools O.F O.N hh hl (bools_of hr) fun h' tk F' N' => P.heap O F' N' to_bool hk
theorem recv_sound (O : Ok C h₀ L s m T X μ) {mk : Mk} {d : D} {vd : Value} {pl : Sem Bool} {Q : Value × List Value → Shared → Prop} (r : Rd C.B T X vd d) (v : recvOk mk d μ) (h : Q (.builtin (mkId mk), [vd]) s) :
    wpAny (model C.prog C.w) A (getMethod vd (Str.ofString (mkName mk)) pl) Q E s := by
  have str : ∀ {name : Str} {id : String}, onStr d (fun _ => True) → Slot "str" name id → typeOf (.builtin id) = pure (.type "method_descriptor") → Q (.builtin id, [vd]) s → wpAny (model C.prog C.w) A (getMethod vd name pl) Q E s := by
    intro name id v slot ty h
    obtain ⟨x, t, rfl, _⟩ := inStr v r
    exact GM.of (.str x t) (typeIs_str _ _ _) slot ty GM.noRef h
  cases mk with
  | split => exact str v PySem.F.slot_str_split PySem.F.type_str_split h
  | join => exact str v PySem.F.slot_str_join PySem.F.type_str_join h
  | strip => exact str v PySem.F.slot_str_strip PySem.F.type_str_strip h
  | lstrip => exact str v PySem.F.slot_str_lstrip PySem.F.type_str_lstrip h
  | rstrip => exact str v PySem.F.slot_str_rstrip PySem.F.type_str_rstrip h
  | count => exact str v PySem.F.slot_str_count PySem.F.type_str_count h
  | pop0 =>
    obtain ⟨a, rfl, xs, hM⟩ := inRef v r
    obtain ⟨us, n, hT, _⟩ := O.mut hM
    exact kl_method O.N hT PySem.F.slot_list_pop PySem.F.type_list_pop h
  | append =>
    obtain ⟨a, rfl, xs, hM⟩ := inRef v r
    obtain ⟨us, n, hT, _⟩ := O.mut hM
    exact kl_method O.N hT PySem.F.slot_list_append PySem.F.type_list_append h
  | get =>
    obtain ⟨a, rfl, xs, hM⟩ := inRef v r
    obtain ⟨o, us, h1, h2, h3, h4, h5⟩ := O.M _ (lookM_mem hM)
    exact kob_method PySem.F.slot_dict_get PySem.F.type_dict_get O.N h1 h2 h
theorem vals_at : ∀ {us : List (Int × Value)} {kvs : List (Int × D)} (c : Int), us.map (·.1) = kvs.map (·.1) → Rds C.B T X (us.map (·.2)) (kvs.map (·.2)) →
    Rd C.B T X ((valueAt us c).getD .none) ((valD kvs c).getD .none)
  | [], [], c, _, _ => by simp only [valueAt, valD, List.find?_nil, Option.map_none, Option.getD_none]; exact to_none
  | (a, v) :: us, (b, d) :: kvs, c, h, r => by
    simp only [List.map_cons, List.cons.injEq] at h
    obtain ⟨rfl, h⟩ := h
    simp only [List.map_cons] at r
    obtain ⟨v', r', e, ra, rb⟩ := r
    cases e
    by_cases q : a = c
    · simp only [valueAt, valD, List.find?_cons, q, decide_true, Option.map_some, Option.getD_some]; exact ra
    · have := vals_at c h rb
      simpa only [valueAt, valD, List.find?_cons, q, decide_false] using this
  | [], _ :: _, _, h, _ => by simp at h
  | _ :: _, [], _, h, _ => by simp at h
theorem look_dict {a : Addr} {k : List (Int × D) → Prop} (h : match (generalizing := false) lookM μ a with | some (.dict xs) => k xs | _ => False) : ∃ xs, lookM μ a = some (.dict xs) ∧ k xs := by
  cases e : lookM μ a with
  | none => rw [e] at h; exact h.elim
  | some o =>
    rw [e] at h
    cases o with
    | lst xs => exact h.elim
    | dict kvs => exact ⟨_, rfl, h⟩
theorem look_cons_ {a : Addr} {k : D → List D → Prop} (h : match (generalizing := false) lookM μ a with | some (.lst (x :: xs)) => k x xs | _ => False) : ∃ x xs, lookM μ a = some (.lst (x :: xs)) ∧ k x xs := by
  cases e : lookM μ a with
  | none => rw [e] at h; exact h.elim
  | some o =>
    rw [e] at h
    cases o with
    | dict kvs => exact h.elim
    | lst xs =>
      cases xs with
      | nil => exact h.elim
      | cons x xs => exact ⟨x, xs, rfl, h⟩
theorem mk_sound (hsm : ∃ o, h₀.get? sysModules = some o) (O : Ok C h₀ L s m T X μ) {mk : Mk} {d : D} {ds : List D} {vd : Value} {vs : List Value} (rd : Rd C.B T X vd d) (r : Rds C.B T X vs ds)
    (v : mkD mk d ds μ k) (P : PE C h₀ L s m T X μ k Q) : wpAny (model C.prog C.w) A (call (.builtin (mkId mk)) (vd :: vs)) Q E s := by
  cases mk with
  | split =>
    obtain ⟨x, t, rfl, v⟩ := inStr v rd
    obtain ⟨d, w, rfl, ra, v⟩ := in1 v r
    obtain ⟨y, u, rfl, hy, hx, hn, hk⟩ := inStr v ra
    have made : ∀ {h' : Heap} {tk : Nat} {l : List (Str × Tok)}, l.map (·.1) = Txt.split x y → Fr h₀ L h' m → News h₀ L h' ((s.heap.objs.size, { cls := .type "list", data := .seq (strValues l).toArray }) :: T) → Q (.ref s.heap.objs.size) { s with heap := h', toks := tk } := by
      intro h' tk l e F' N'
      refine P.made O F' N' (to_list O.fresh ?_) hk
      have := of_strs (C := C) (T := (s.heap.objs.size, { cls := .type "list", data := .seq (strValues l).toArray }) :: T) (X := X) l
      rw [e] at this
      exact this
    cases h1 : (decide (x.length < y.length) || decide (strKind x < strKind y))
    · cases hf : (occurrences x y 0 x.length (x.length + 1)).isEmpty
      · refine call_meets PySem.F.slot_str_split (typeIs_str _ _ _) PySem.F.entry_str_split (PySem.F.args_str_split_2 _ _) (meets_str_split_sep x y t u h1 hy hf hx hn) ?_
        show wants Q E _ { s with toks := _, heap := s.heap.push { cls := .type "list", data := .seq (strsFrom s.toks (partsBetween x (occurrences x y 0 x.length (x.length + 1)) y.length)).toArray } }
        rw [strsFrom_eq]
        exact made ((numbered_texts _ _).trans ((if_neg (ne_true_of_eq_false h1)).trans (if_neg (ne_true_of_eq_false hf))).symm) (O.F.push _) (O.N.push O.F _)
      · refine call_meets PySem.F.slot_str_split (typeIs_str _ _ _) PySem.F.entry_str_split (PySem.F.args_str_split_2 _ _) (meets_str_split_not_found x y t u h1 hy hf) ?_
        exact made (l := [(x, t)]) (((if_neg (ne_true_of_eq_false h1)).trans (if_pos hf)).symm) (O.F.push _) (O.N.push O.F _)
    · refine call_meets PySem.F.slot_str_split (typeIs_str _ _ _) PySem.F.entry_str_split (PySem.F.args_str_split_2 _ _) (meets_str_split_cannot_occur x y t u h1) ?_
      exact made (l := [(x, t)]) ((if_pos h1).symm) (O.F.push _) (O.N.push O.F _)
  | join =>
    obtain ⟨x, t, rfl, v⟩ := inStr v rd
    obtain ⟨d, w, rfl, ra, v⟩ := in1 v r
    obtain ⟨ys, a, us, rfl, hl, hr, ts, rfl, hok, hk⟩ := inLst O v ra
    obtain ⟨l, rfl, e⟩ := strs_of hr
    have hok' := hok
    unfold JoinOk at hok
    rw [Bool.not_eq_true'] at hok
    refine call_meets PySem.F.slot_str_join (typeIs_str _ _ _) PySem.F.entry_str_join (PySem.F.args_str_join_2 _ _) (meets_str_join_list x t a l (by rw [e]; exact hok)) ⟨hl, post_join l ⟨by rw [e]; exact joinFit_length hok, fun t' tk => ?_⟩⟩
    rw [e]
    exact P.here O _ to_str hk
  | strip =>
    obtain ⟨x, t, rfl, v⟩ := inStr v rd
    obtain ⟨d, w, rfl, ra, v⟩ := in1 v r
    obtain ⟨y, u, rfl, v⟩ := inStr v ra
    exact call_gives PySem.F.slot_str_strip (typeIs_str _ _ _) PySem.F.entry_str_strip (PySem.F.args_str_strip_2 _ _) (gives_str_strip_chars _ _ t u) (post_val_or_made (fun _ => fits_stripped _ _ _ v.1) fun t' tk => P.here O _ to_str v.2)
  | lstrip =>
    obtain ⟨x, t, rfl, v⟩ := inStr v rd
    obtain ⟨d, w, rfl, ra, v⟩ := in1 v r
    obtain ⟨y, u, rfl, v⟩ := inStr v ra
    exact call_gives PySem.F.slot_str_lstrip (typeIs_str _ _ _) PySem.F.entry_str_lstrip (PySem.F.args_str_lstrip_2 _ _) (gives_str_lstrip_chars _ _ t u) (post_val_or_made (fun _ => fits_stripped _ _ _ v.1) fun t' tk => P.here O _ to_str v.2)
  | rstrip =>
    obtain ⟨x, t, rfl, v⟩ := inStr v rd
    obtain ⟨d, w, rfl, ra, v⟩ := in1 v r
    obtain ⟨y, u, rfl, v⟩ := inStr v ra
    exact call_gives PySem.F.slot_str_rstrip (typeIs_str _ _ _) PySem.F.entry_str_rstrip (PySem.F.args_str_rstrip_2 _ _) (gives_str_rstrip_chars _ _ t u) (post_val_or_made (fun _ => fits_stripped _ _ _ v.1) fun t' tk => P.here O _ to_str v.2)
  | count =>
    obtain ⟨x, t, rfl, v⟩ := inStr v rd
    obtain ⟨d, w, rfl, ra, v⟩ := in1 v r
    obtain ⟨y, u, rfl, v⟩ := inStr v ra
    exact call_gives PySem.F.slot_str_count (typeIs_str _ _ _) PySem.F.entry_str_count (PySem.F.args_str_count_2 _ _) (gives_str_count _ _ t u) (P.here O _ to_int v)
  | pop0 =>
    obtain ⟨a, rfl, v⟩ := inRef v rd
    obtain ⟨d, w, rfl, ra, v⟩ := in1 v r
    obtain ⟨z, u, rfl, rfl, v⟩ := inInt v ra
    obtain ⟨x, xs, hM, v⟩ := look_cons_ v
    obtain ⟨us, n, hT, hr, hz, hX, hk⟩ := O.mut hM
    obtain ⟨y, q, rfl, r1, r2⟩ := hr
    refine kl_popAt (k := 0) (p := []) (q := q) (y := y) O.F (O.updN hT) (by decide) (by simp [seqIndex?]) rfl updT_upd (by simpa using hz) fun h' F' N' => ?_
    exact P.upd (tk := s.toks) O hk F' N' r2 (Nat.le_of_succ_le hz) r1 v
  | append =>
    obtain ⟨a, rfl, v⟩ := inRef v rd
    obtain ⟨d, w, rfl, ra, v⟩ := in1 v r
    obtain ⟨xs, hM, v⟩ := look_lst (k := fun xs => xs.length < sizeLine ∧ k .none (setM μ a (.lst (xs ++ [d])))) v
    obtain ⟨us, n, hT, hr, hz, hX, hk⟩ := O.mut hM
    refine append_K (its := us.toArray) (n := n) O.F (O.updN hT) (by rw [List.push_toArray]; exact updT_upd) (fun h' F' N' => ?_) (by simpa using hz)
    exact P.upd (tk := s.toks) O hk F' N' (hr.append (.one ra)) (by rw [List.length_append, hr.length]; exact v.1) to_none v.2
  | get =>
    obtain ⟨a, rfl, v⟩ := inRef v rd
    obtain ⟨d1, d2, w1, w2, rfl, ra, rb, v⟩ := in2 v r
    obtain ⟨c, u, rfl, v⟩ := inInt v ra
    obtain ⟨rfl, v⟩ := inNone v rb
    obtain ⟨kvs, hM, v⟩ := look_dict (k := fun kvs => k ((valD kvs c).getD .none) μ) v
    obtain ⟨o, us, h1, h2, h3, h4, h5⟩ := O.M _ (lookM_mem hM)
    have hne : (a == sysModules) = false := beq_eq_false_iff_ne.mpr fun e => by
      obtain ⟨o', ho'⟩ := hsm
      have := (O.N _ h1).2.2
      simp only at this
      rw [e, ho'] at this; cases this
    have hD := kda_dict O.N h1 h2
    refine call_meetsIn PySem.F.slot_dict_get hD.typeIs PySem.F.entry_dict_get (PySem.F.args_dict_get_3 _ _ _) (meets_dict_get_default (intKind C.prog C.w) a (k := c) (intKind_is _ _ _ _) hne .none) ⟨_, hD.mapOf, ?_⟩
    exact P.here O _ (vals_at c h3 h4) v
end
structure Sc where
  nm : List Str
  sc : Scope
noncomputable def notSlice : PySem.Expr → Bool
  | .Slice .. => false
  | _ => true
noncomputable def isNameE : PySem.Expr → Bool
  | .Name .. => true
  | _ => false
noncomputable def baseOk : PySem.Expr → Bool
  | .Call f args _ _ => !(isNameE f && args.isEmpty)
  | _ => true
noncomputable def notDbg (x : Str) : Bool := !sb x (Str.ofString "__debug__")
noncomputable def isG (S : Sc) (x : Str) : Bool := (match lkS x S.sc.names with | some .globalImplicit => true | _ => false) && notDbg x
noncomputable def notSet : PySem.Expr → Bool
  | .Set .. => false
  | _ => true
theorem behind_of {op : CmpOp} {e : PySem.Expr} (h : notSet e = true) : behindInMarks op e = false := by
  cases e <;> first | rfl | cases h
noncomputable def varK (o : Option NameKind) : Bool := match o with
  | some .local => true
  | some .cell => true
  | some .free => true
  | _ => false
noncomputable def isL (o : Option NameKind) : Bool := match o with
  | some .local => true
  | _ => false
noncomputable def isC (o : Option NameKind) : Bool := match o with
  | some .cell => true
  | _ => false
noncomputable def isFunc : ScopeKind → Bool
  | .function => true
  | _ => false
noncomputable def allB {α : Type} (p : α → Bool) : List α → Bool
  | [] => true
  | a :: r => p a && allB p r
noncomputable def hideN (x : Str) (l : List Str) : List Str := l.map fun y => match sb y x with | true => ⟨#[]⟩ | false => y
noncomputable def dot0 : Str := ⟨#[46, 48]⟩
noncomputable def compSc (S : Sc) (x : Str) (sc : Scope) : Bool := allB (fun y => !sb y dot0) S.nm && isFunc sc.kind && !varK (lkS ⟨#[]⟩ sc.names) && notDbg x && isL (lkS x sc.names) && allB (fun y : Str × NameKind => match y.2 with
  | .local => sb y.1 x || (sb y.1 dot0 && isL (lkS dot0 sc.names))
  | .free => isC (lkS y.1 S.sc.names)
  | .globalImplicit => true
  | _ => false) sc.names
noncomputable def gd (b : Bool) (f : b = true → Bool) : Bool := match b, f with
  | true, f => f rfl
  | false, _ => false
theorem gd_inv {b : Bool} {f : b = true → Bool} (h : gd b f = true) : ∃ e, f e = true := by
  cases b
  · cases h
  · exact ⟨rfl, h⟩
section
variable {e : PySem.Expr}
noncomputable def onName (e : PySem.Expr) (k : Str → Bool) : Bool := gd (Nat.beq e.ctorIdx 23) fun h => PySem.Expr.Name.elim e (Nat.eq_of_beq_eq_true h) fun x p => k x
theorem onName_inv {k : Str → Bool} (h : onName e k = true) : ∃ x p, e = .Name x p ∧ k x = true := by
  obtain ⟨a, w1⟩ := gd_inv h
  exact PySem.Expr.Name.elim (motive_1 := fun e => ∀ a, PySem.Expr.Name.elim e a (fun x p => k x) = true → ∃ x p, e = .Name x p ∧ k x = true) e (Nat.eq_of_beq_eq_true a) (fun x p _ w1 => ⟨x, p, rfl, w1⟩) (Nat.eq_of_beq_eq_true a) w1
noncomputable def onConst (e : PySem.Expr) (k : Const → Bool) : Bool := gd (Nat.beq e.ctorIdx 19) fun h => PySem.Expr.Constant.elim e (Nat.eq_of_beq_eq_true h) fun c i p => k c
theorem onConst_inv {k : Const → Bool} (h : onConst e k = true) : ∃ c i p, e = .Constant c i p ∧ k c = true := by
  obtain ⟨a, w1⟩ := gd_inv h
  exact PySem.Expr.Constant.elim (motive_1 := fun e => ∀ a, PySem.Expr.Constant.elim e a (fun c i p => k c) = true → ∃ c i p, e = .Constant c i p ∧ k c = true) e (Nat.eq_of_beq_eq_true a) (fun c i p _ w1 => ⟨c, i, p, rfl, w1⟩) (Nat.eq_of_beq_eq_true a) w1
noncomputable def onBin (e : PySem.Expr) (k : PySem.Expr → PySem.Operator → PySem.Expr → Bool) : Bool := gd (Nat.beq e.ctorIdx 2) fun h => PySem.Expr.BinOp.elim e (Nat.eq_of_beq_eq_true h) fun l o r p => k l o r
theorem onBin_inv {k : PySem.Expr → PySem.Operator → PySem.Expr → Bool} (h : onBin e k = true) : ∃ l o r p, e = .BinOp l o r p ∧ k l o r = true := by
  obtain ⟨a, w1⟩ := gd_inv h
  exact PySem.Expr.BinOp.elim (motive_1 := fun e => ∀ a, PySem.Expr.BinOp.elim e a (fun l o r p => k l o r) = true → ∃ l o r p, e = .BinOp l o r p ∧ k l o r = true) e (Nat.eq_of_beq_eq_true a) (fun l o r p _ w1 => ⟨l, o, r, p, rfl, w1⟩) (Nat.eq_of_beq_eq_true a) w1
noncomputable def onUn (e : PySem.Expr) (k : PySem.UnaryOp → PySem.Expr → Bool) : Bool := gd (Nat.beq e.ctorIdx 3) fun h => PySem.Expr.UnaryOp.elim e (Nat.eq_of_beq_eq_true h) fun o x p => k o x
theorem onUn_inv {k : PySem.UnaryOp → PySem.Expr → Bool} (h : onUn e k = true) : ∃ o x p, e = .UnaryOp o x p ∧ k o x = true := by
  obtain ⟨a, w1⟩ := gd_inv h
  exact PySem.Expr.UnaryOp.elim (motive_1 := fun e => ∀ a, PySem.Expr.UnaryOp.elim e a (fun o x p => k o x) = true → ∃ o x p, e = .UnaryOp o x p ∧ k o x = true) e (Nat.eq_of_beq_eq_true a) (fun o x p _ w1 => ⟨o, x, p, rfl, w1⟩) (Nat.eq_of_beq_eq_true a) w1
noncomputable def onCmp (e : PySem.Expr) (k : PySem.Expr → List CmpOp → List PySem.Expr → Bool) : Bool := gd (Nat.beq e.ctorIdx 15) fun h => PySem.Expr.Compare.elim e (Nat.eq_of_beq_eq_true h) fun l o r p => k l o r
theorem onCmp_inv {k : PySem.Expr → List CmpOp → List PySem.Expr → Bool} (h : onCmp e k = true) : ∃ l o r p, e = .Compare l o r p ∧ k l o r = true := by
  obtain ⟨a, w1⟩ := gd_inv h
  exact PySem.Expr.Compare.elim (motive_1 := fun e => ∀ a, PySem.Expr.Compare.elim e a (fun l o r p => k l o r) = true → ∃ l o r p, e = .Compare l o r p ∧ k l o r = true) e (Nat.eq_of_beq_eq_true a) (fun l o r p _ w1 => ⟨l, o, r, p, rfl, w1⟩) (Nat.eq_of_beq_eq_true a) w1
noncomputable def onBool (e : PySem.Expr) (k : PySem.BoolOp → List PySem.Expr → Bool) : Bool := gd (Nat.beq e.ctorIdx 0) fun h => PySem.Expr.BoolOp.elim e (Nat.eq_of_beq_eq_true h) fun o v p => k o v
theorem onBool_inv {k : PySem.BoolOp → List PySem.Expr → Bool} (h : onBool e k = true) : ∃ o v p, e = .BoolOp o v p ∧ k o v = true := by
  obtain ⟨a, w1⟩ := gd_inv h
  exact PySem.Expr.BoolOp.elim (motive_1 := fun e => ∀ a, PySem.Expr.BoolOp.elim e a (fun o v p => k o v) = true → ∃ o v p, e = .BoolOp o v p ∧ k o v = true) e (Nat.eq_of_beq_eq_true a) (fun o v p _ w1 => ⟨o, v, p, rfl, w1⟩) (Nat.eq_of_beq_eq_true a) w1
noncomputable def onIf (e : PySem.Expr) (k : PySem.Expr → PySem.Expr → PySem.Expr → Bool) : Bool := gd (Nat.beq e.ctorIdx 5) fun h => PySem.Expr.IfExp.elim e (Nat.eq_of_beq_eq_true h) fun t x y p => k t x y
theorem onIf_inv {k : PySem.Expr → PySem.Expr → PySem.Expr → Bool} (h : onIf e k = true) : ∃ t x y p, e = .IfExp t x y p ∧ k t x y = true := by
  obtain ⟨a, w1⟩ := gd_inv h
  exact PySem.Expr.IfExp.elim (motive_1 := fun e => ∀ a, PySem.Expr.IfExp.elim e a (fun t x y p => k t x y) = true → ∃ t x y p, e = .IfExp t x y p ∧ k t x y = true) e (Nat.eq_of_beq_eq_true a) (fun t x y p _ w1 => ⟨t, x, y, p, rfl, w1⟩) (Nat.eq_of_beq_eq_true a) w1
noncomputable def onCall (e : PySem.Expr) (k : PySem.Expr → List PySem.Expr → List Keyword → Pos → Bool) : Bool := gd (Nat.beq e.ctorIdx 16) fun h => PySem.Expr.Call.elim e (Nat.eq_of_beq_eq_true h) fun f a w p => k f a w p
theorem onCall_inv {k : PySem.Expr → List PySem.Expr → List Keyword → Pos → Bool} (h : onCall e k = true) : ∃ f a w p, e = .Call f a w p ∧ k f a w p = true := by
  obtain ⟨a, w1⟩ := gd_inv h
  exact PySem.Expr.Call.elim (motive_1 := fun e => ∀ a, PySem.Expr.Call.elim e a (fun f a w p => k f a w p) = true → ∃ f a w p, e = .Call f a w p ∧ k f a w p = true) e (Nat.eq_of_beq_eq_true a) (fun f a w p _ w1 => ⟨f, a, w, p, rfl, w1⟩) (Nat.eq_of_beq_eq_true a) w1
noncomputable def onAttr (e : PySem.Expr) (k : PySem.Expr → Str → Pos → Bool) : Bool := gd (Nat.beq e.ctorIdx 20) fun h => PySem.Expr.Attribute.elim e (Nat.eq_of_beq_eq_true h) fun o n p => k o n p
theorem onAttr_inv {k : PySem.Expr → Str → Pos → Bool} (h : onAttr e k = true) : ∃ o n p, e = .Attribute o n p ∧ k o n p = true := by
  obtain ⟨a, w1⟩ := gd_inv h
  exact PySem.Expr.Attribute.elim (motive_1 := fun e => ∀ a, PySem.Expr.Attribute.elim e a (fun o n p => k o n p) = true → ∃ o n p, e = .Attribute o n p ∧ k o n p = true) e (Nat.eq_of_beq_eq_true a) (fun o n p _ w1 => ⟨o, n, p, rfl, w1⟩) (Nat.eq_of_beq_eq_true a) w1
noncomputable def onList (e : PySem.Expr) (k : List PySem.Expr → Bool) : Bool := gd (Nat.beq e.ctorIdx 24) fun h => PySem.Expr.List.elim e (Nat.eq_of_beq_eq_true h) fun l p => k l
theorem onList_inv {k : List PySem.Expr → Bool} (h : onList e k = true) : ∃ l p, e = .List l p ∧ k l = true := by
  obtain ⟨a, w1⟩ := gd_inv h
  exact PySem.Expr.List.elim (motive_1 := fun e => ∀ a, PySem.Expr.List.elim e a (fun l p => k l) = true → ∃ l p, e = .List l p ∧ k l = true) e (Nat.eq_of_beq_eq_true a) (fun l p _ w1 => ⟨l, p, rfl, w1⟩) (Nat.eq_of_beq_eq_true a) w1
noncomputable def onTup (e : PySem.Expr) (k : List PySem.Expr → Bool) : Bool := gd (Nat.beq e.ctorIdx 25) fun h => PySem.Expr.Tuple.elim e (Nat.eq_of_beq_eq_true h) fun l c p => k l
theorem onTup_inv {k : List PySem.Expr → Bool} (h : onTup e k = true) : ∃ l c p, e = .Tuple l c p ∧ k l = true := by
  obtain ⟨a, w1⟩ := gd_inv h
  exact PySem.Expr.Tuple.elim (motive_1 := fun e => ∀ a, PySem.Expr.Tuple.elim e a (fun l c p => k l) = true → ∃ l c p, e = .Tuple l c p ∧ k l = true) e (Nat.eq_of_beq_eq_true a) (fun l c p _ w1 => ⟨l, c, p, rfl, w1⟩) (Nat.eq_of_beq_eq_true a) w1
noncomputable def onSub (e : PySem.Expr) (k : PySem.Expr → PySem.Expr → Bool) : Bool := gd (Nat.beq e.ctorIdx 21) fun h => PySem.Expr.Subscript.elim e (Nat.eq_of_beq_eq_true h) fun v s p => k v s
theorem onSub_inv {k : PySem.Expr → PySem.Expr → Bool} (h : onSub e k = true) : ∃ v s p, e = .Subscript v s p ∧ k v s = true := by
  obtain ⟨a, w1⟩ := gd_inv h
  exact PySem.Expr.Subscript.elim (motive_1 := fun e => ∀ a, PySem.Expr.Subscript.elim e a (fun v s p => k v s) = true → ∃ v s p, e = .Subscript v s p ∧ k v s = true) e (Nat.eq_of_beq_eq_true a) (fun v s p _ w1 => ⟨v, s, p, rfl, w1⟩) (Nat.eq_of_beq_eq_true a) w1
noncomputable def onSlice (e : PySem.Expr) (k : Option PySem.Expr → Option PySem.Expr → Option PySem.Expr → Bool) : Bool := gd (Nat.beq e.ctorIdx 26) fun h => PySem.Expr.Slice.elim e (Nat.eq_of_beq_eq_true h) fun l u s p => k l u s
theorem onSlice_inv {k : Option PySem.Expr → Option PySem.Expr → Option PySem.Expr → Bool} (h : onSlice e k = true) : ∃ l u s p, e = .Slice l u s p ∧ k l u s = true := by
  obtain ⟨a, w1⟩ := gd_inv h
  exact PySem.Expr.Slice.elim (motive_1 := fun e => ∀ a, PySem.Expr.Slice.elim e a (fun l u s p => k l u s) = true → ∃ l u s p, e = .Slice l u s p ∧ k l u s = true) e (Nat.eq_of_beq_eq_true a) (fun l u s p _ w1 => ⟨l, u, s, p, rfl, w1⟩) (Nat.eq_of_beq_eq_true a) w1
noncomputable def onLC (e : PySem.Expr) (k : PySem.Expr → List Comprehension → Scope → Bool) : Bool := gd (Nat.beq e.ctorIdx 8) fun h => PySem.Expr.ListComp.elim e (Nat.eq_of_beq_eq_true h) fun b g s p => k b g s
theorem onLC_inv {k : PySem.Expr → List Comprehension → Scope → Bool} (h : onLC e k = true) : ∃ b g s p, e = .ListComp b g s p ∧ k b g s = true := by
  obtain ⟨a, w1⟩ := gd_inv h
  exact PySem.Expr.ListComp.elim (motive_1 := fun e => ∀ a, PySem.Expr.ListComp.elim e a (fun b g s p => k b g s) = true → ∃ b g s p, e = .ListComp b g s p ∧ k b g s = true) e (Nat.eq_of_beq_eq_true a) (fun b g s p _ w1 => ⟨b, g, s, p, rfl, w1⟩) (Nat.eq_of_beq_eq_true a) w1
end
section
variable {α : Type}
noncomputable def onSome (o : Option α) (k : α → Bool) : Bool := match o with
  | some a => k a
  | Option.none => false
theorem onSome_inv {o : Option α} {k : α → Bool} (h : onSome o k = true) : ∃ a, o = some a ∧ k a = true := by
  cases o with
  | none => cases h
  | some a => exact ⟨a, rfl, h⟩
noncomputable def on1 (l : List α) (k : α → Bool) : Bool := match l with
  | [] => false
  | a :: r => r.isEmpty && k a
theorem on1_inv {l : List α} {k : α → Bool} (h : on1 l k = true) : ∃ a, l = [a] ∧ k a = true := by
  cases l with
  | nil => cases h
  | cons a r => obtain ⟨h, g⟩ := an2 h; exact ⟨a, by rw [List.isEmpty_iff.mp h], g⟩
noncomputable def on2 (l : List α) (k : α → α → Bool) : Bool := match l with
  | [] => false
  | a :: r => on1 r (k a)
theorem on2_inv {l : List α} {k : α → α → Bool} (h : on2 l k = true) : ∃ a b, l = [a, b] ∧ k a b = true := by
  cases l with
  | nil => cases h
  | cons a r => obtain ⟨b, rfl, g⟩ := on1_inv h; exact ⟨a, b, rfl, g⟩
noncomputable def isNo (o : Option α) : Bool := match o with
  | some _ => false
  | Option.none => true
theorem isNo_inv {o : Option α} (h : isNo o = true) : o = Option.none := by
  cases o with
  | none => rfl
  | some a => cases h
theorem ne_of {l : List α} (h : (!l.isEmpty) = true) : l ≠ [] := fun e => by subst e; cases h
end
noncomputable def cInt (n : Int) : Const → Bool
  | .int m => m == n
  | _ => false
noncomputable def cStr (n : Str) : Const → Bool
  | .str m => sb m n
  | _ => false
noncomputable def cBool (n : Bool) : Const → Bool
  | .bool m => m == n
  | _ => false
noncomputable def cNone : Const → Bool
  | .none => true
  | _ => false
theorem cInt_inv {n : Int} {c : Const} (h : cInt n c = true) : c = .int n := by
  cases c <;> first | (cases h; done) | exact congrArg _ (eq_of_beq h)
theorem cStr_inv {n : Str} {c : Const} (h : cStr n c = true) : c = .str n := by
  cases c <;> first | (cases h; done) | exact congrArg _ (sb_eq h)
theorem cBool_inv {n : Bool} {c : Const} (h : cBool n c = true) : c = .bool n := by
  cases c <;> first | (cases h; done) | exact congrArg _ (eq_of_beq h)
theorem cNone_inv {c : Const} (h : cNone c = true) : c = .none := by
  cases c <;> first | rfl | cases h
noncomputable def isNoneC (e : PySem.Expr) : Bool := onConst e cNone
theorem isNoneC_inv {e : PySem.Expr} (h : isNoneC e = true) : ∃ k p, e = .Constant .none k p := by
  obtain ⟨c, i, p, rfl, w1⟩ := onConst_inv h
  obtain rfl := cNone_inv w1
  exact ⟨i, p, rfl⟩
noncomputable def isNilL (e : PySem.Expr) : Bool := onList e fun l => l.isEmpty
theorem isNilL_inv {e : PySem.Expr} (h : isNilL e = true) : ∃ p, e = .List [] p := by
  obtain ⟨l, p, rfl, w1⟩ := onList_inv h
  obtain rfl := List.isEmpty_iff.mp w1
  exact ⟨p, rfl⟩
noncomputable def isMinus1 (e : PySem.Expr) : Bool := onUn e fun o x => decide (o = .USub) && onConst x (cInt 1)
theorem isMinus1_inv {e : PySem.Expr} (h : isMinus1 e = true) : ∃ k p q, e = .UnaryOp .USub (.Constant (.int 1) k p) q := by
  obtain ⟨o, x, q, rfl, w1⟩ := onUn_inv h
  obtain ⟨w2, w3⟩ := an2 w1
  obtain rfl := of_decide_eq_true w2
  obtain ⟨c, k, p, rfl, w4⟩ := onConst_inv w3
  obtain rfl := cInt_inv w4
  exact ⟨k, p, q, rfl⟩
noncomputable def isStar (e : PySem.Expr) : Bool := Nat.beq e.ctorIdx 22
noncomputable def onFn (e : PySem.Expr) (k : Str → List PySem.Expr → Bool) : Bool := onCall e fun f a w _ => w.isEmpty && onName f fun f => k f a
theorem onFn_inv {e : PySem.Expr} {k : Str → List PySem.Expr → Bool} (h : onFn e k = true) : ∃ f q a p, e = .Call (.Name f q) a [] p ∧ k f a = true := by
  obtain ⟨f, a, w, p, rfl, w1⟩ := onCall_inv h
  obtain ⟨w2, w3⟩ := an2 w1
  obtain rfl := List.isEmpty_iff.mp w2
  obtain ⟨f, q, rfl, w4⟩ := onName_inv w3
  exact ⟨f, q, a, p, rfl, w4⟩
noncomputable def onMt (e : PySem.Expr) (k : PySem.Expr → Str → List PySem.Expr → Bool) : Bool := onCall e fun f a w p => w.isEmpty && onAttr f fun o n q => baseOk o && ((q.endLine == p.line) && (decide (a.length < 20) && k o n a))
theorem onMt_inv {e : PySem.Expr} {k : PySem.Expr → Str → List PySem.Expr → Bool} (h : onMt e k = true) : ∃ o n q a p, e = .Call (.Attribute o n q) a [] p ∧ baseOk o = true ∧ (q.endLine == p.line) = true ∧ a.length < 20 ∧ k o n a = true := by
  obtain ⟨f, a, w, p, rfl, w1⟩ := onCall_inv h
  obtain ⟨w2, w3⟩ := an2 w1
  obtain rfl := List.isEmpty_iff.mp w2
  obtain ⟨o, n, q, rfl, w4⟩ := onAttr_inv w3
  obtain ⟨w5, w6⟩ := an2 w4
  obtain ⟨w7, w8⟩ := an2 w6
  obtain ⟨w9, w10⟩ := an2 w8
  exact ⟨o, n, q, a, p, rfl, w5, w7, of_decide_eq_true w9, w10⟩
noncomputable def onGen (e : PySem.Expr) (k : PySem.Expr → Str → PySem.Expr → List PySem.Expr → Scope → Bool) : Bool := onLC e fun e g s => on1 g fun c => decide (c.is_async = 0) && (decide (c.ifs.length ≤ 1) && onName c.target fun x => k e x c.iter c.ifs s)
theorem onGen_inv {e : PySem.Expr} {k : PySem.Expr → Str → PySem.Expr → List PySem.Expr → Scope → Bool} (h : onGen e k = true) : ∃ e' x q i c s p, e = .ListComp e' [⟨.Name x q, i, c, 0⟩] s p ∧ c.length ≤ 1 ∧ k e' x i c s = true := by
  obtain ⟨e, g, s, p, rfl, w1⟩ := onLC_inv h
  obtain ⟨⟨t, i, c, a⟩, rfl, w2⟩ := on1_inv w1
  obtain ⟨w3, w4⟩ := an2 w2
  obtain rfl : a = 0 := of_decide_eq_true w3
  obtain ⟨w5, w6⟩ := an2 w4
  obtain ⟨x, q, rfl, w7⟩ := onName_inv (e := t) w6
  exact ⟨e, x, q, i, c, s, p, rfl, of_decide_eq_true w5, w7⟩
section
variable (Γ : Cfg)
mutual
noncomputable def okE (S : Sc) : ME → PySem.Expr → Bool
  | .var i, e => onName e fun x => onSome S.nm[i]? fun y => sb x y && (notDbg x && varK (lkS x S.sc.names))
  | .gl j, e => onName e fun x => onSome Γ.gl[j]? fun p => sb x p.1 && isG S x
  | .int n, e => onConst e (cInt n)
  | .str x, e => onConst e (cStr x)
  | .none, e => isNoneC e
  | .bool b, e => onConst e (cBool b)
  | .bin o a b, e => onBin e fun l op r => decide (op = opOf o) && (okE S a l && okE S b r)
  | .rep a b, e => onBin e fun l op r => decide (op = .Mult) && (onList l fun l => on1 l fun x => !isStar x && (okE S a x && okE S b r))
  | .neg a, e => onUn e fun op x => decide (op = .USub) && okE S a x
  | .not a, e => onUn e fun op x => decide (op = .Not) && okE S a x
  | .cmp o a b, e => onCmp e fun l op r => on1 op fun op => on1 r fun r => decide (op = copOf o) && (notSet r && (okE S a l && okE S b r))
  | .neE a, e => onCmp e fun l op r => on1 op fun op => on1 r fun r => decide (op = .NotEq) && (isNilL r && okE S a l)
  | .chain o p a b c, e => onCmp e fun l op r => on2 op fun op op' => on2 r fun r r' => decide (op = copOf o) && (decide (op' = copOf p) && (notSet r && (notSet r' && (okE S a l && (okE S b r && okE S c r')))))
  | .isN ng a, e => onCmp e fun l op r => on1 op fun op => on1 r fun r => decide (op = if ng then .IsNot else .Is) && (isNoneC r && okE S a l)
  | .isIn ng a b, e => onCmp e fun l op r => on1 op fun op => on1 r fun r => decide (op = if ng then .NotIn else .In) && (notSet r && (okE S a l && okE S b r))
  | .ands es, e => onBool e fun op vs => decide (op = .And) && (okEs S es vs && !vs.isEmpty)
  | .ors es, e => onBool e fun op vs => decide (op = .Or) && (okEs S es vs && !vs.isEmpty)
  | .ite c a b, e => onIf e fun t x y => okE S c t && (okE S a x && okE S b y)
  | .call j es, e => onFn e fun f args => onSome Γ.fn[j]? fun p => sb f p.1 && (isG S f && okEs S es args)
  | .mcall j o es, e => onMt e fun oe n args => onSome Γ.mt[j]? fun p => sb n p.name && (okE S o oe && okEs S es args)
  | .attr j o, e => onAttr e fun oe n _ => onSome Γ.at_[j]? fun p => sb n p.name && (baseOk oe && okE S o oe)
  | .bi b es, e => onFn e fun f args => sb f (Str.ofString (biName b)) && (isG S f && (okEs S es args && !args.isEmpty))
  | .meth mk o es, e => onMt e fun oe n args => sb n (Str.ofString (mkName mk)) && (okE S o oe && (okEs S es args && !args.isEmpty))
  | .list es, e => onList e fun args => decide (es.length ≤ 1000) && okEs S es args
  | .tup es, e => onTup e fun args => decide (es.length ≤ 1000) && okEs S es args
  | .idx a i, e => onSub e fun v s => notSlice s && (okE S a v && okE S i s)
  | .slc a lo hi, e => onSub e fun v s => onSlice s fun l h s => isNo s && (okE S a v && (okO S lo l && okO S hi h))
  | .rev a, e => onSub e fun v s => onSlice s fun l h s => isNo l && (isNo h && onSome s fun s => isMinus1 s && okE S a v)
  | .comp elt it cond, e => onGen e fun el x iter ifs sc => notSet iter && (okE S it iter && (compSc S x sc && (okE ⟨hideN x S.nm ++ [x], sc⟩ elt el && okEs ⟨hideN x S.nm ++ [x], sc⟩ cond ifs)))
  | .compR elt rg cond, e => onGen e fun el x iter ifs sc => onFn iter fun f args => sb f (Str.ofString "range") && (isG S f && (okEs S rg args && (!args.isEmpty && (compSc S x sc && (okE ⟨hideN x S.nm ++ [x], sc⟩ elt el && okEs ⟨hideN x S.nm ++ [x], sc⟩ cond ifs)))))
noncomputable def okEs (S : Sc) : List ME → List PySem.Expr → Bool
  | [], es => es.isEmpty
  | m :: ms, [] => false
  | m :: ms, e :: es => !isStar e && (okE S m e && okEs S ms es)
noncomputable def okO (S : Sc) : List ME → Option PySem.Expr → Bool
  | [], o => isNo o
  | m :: r, o => r.isEmpty && onSome o fun e => okE S m e
end
end
theorem okEs_cons {Γ : Cfg} {S : Sc} {m : ME} {ms : List ME} {e : PySem.Expr} {es : List PySem.Expr} (h : okEs Γ S (m :: ms) (e :: es) = true) : okE Γ S m e = true ∧ okEs Γ S ms es = true := an2 (an2 h).2
theorem nb_refl : ∀ a : List Nat, nb a a = true
  | [] => rfl
  | a :: r => by show (Nat.beq a a && nb r r) = true; rw [Nat.beq_refl]; exact nb_refl r
theorem sb_refl (a : Str) : sb a a = true := nb_refl _
theorem sb_ne {a b : Str} (h : sb a b = false) : a ≠ b := fun e => by subst e; rw [sb_refl] at h; cases h
theorem lkS_eq {α : Type} {x : Str} : ∀ {l : List (Str × α)}, lkS x l = l.lookup x
  | [] => rfl
  | (y, k') :: r => by
    rw [lkS_c, List.lookup_cons]
    cases q : sb x y with
    | true =>
      rw [sb_eq q, beq_self_eq_true]
    | false =>
      have : (x == y) = false := beq_eq_false_iff_ne.mpr (sb_ne q)
      rw [this]
      exact lkS_eq
theorem notDbg_of {x : Str} (h : notDbg x = true) : (x == ("__debug__" : Str)) = false := by
  unfold notDbg at h
  rw [Bool.not_eq_true'] at h
  exact beq_eq_false_iff_ne.mpr (sb_ne h)
theorem isG_of {S : Sc} {x : Str} (h : isG S x = true) : S.sc.names.lookup x = some .globalImplicit ∧ (x == ("__debug__" : Str)) = false := by
  unfold isG at h
  rw [Bool.and_eq_true] at h
  refine ⟨?_, notDbg_of h.2⟩
  rw [← lkS_eq]
  have := h.1
  split at this
  · assumption
  · cases this
theorem isL_of {o : Option NameKind} (h : isL o = true) : o = some .local := by
  unfold isL at h; split at h <;> first | rfl | cases h
theorem isC_of {o : Option NameKind} (h : isC o = true) : o = some .cell := by
  unfold isC at h; split at h <;> first | rfl | cases h
theorem isFunc_of {o : ScopeKind} (h : isFunc o = true) : o = .function := by
  unfold isFunc at h; split at h <;> first | rfl | cases h
theorem allB_of {α : Type} {p : α → Bool} : ∀ {l : List α}, allB p l = true → ∀ a ∈ l, p a = true
  | [], _, a, h => by cases h
  | b :: r, h, a, m => by
    have h := an2 h
    rcases List.mem_cons.mp m with rfl | m
    · exact h.1
    · exact allB_of h.2 a m
theorem foldedSet_of {e : PySem.Expr} (h : notSet e = true) (env : Env) : ∀ x, foldedSetIterable e env x = pure x := by
  intro x
  cases e <;> first | rfl | cases h
theorem subscripted_of {e : PySem.Expr} (h : notSlice e = true) (o i : Value) : subscripted e false o i = operate [o, i] (getItem o i) := by
  cases e <;> first | rfl | cases h
theorem base_of {e : PySem.Expr} (h : baseOk e = true) (name : Str) (env : Env) (w : Sem Value) : attributeBase e name env w = w := by
  cases e with
  | Call f args kw pos =>
    cases args with
    | cons _ _ => cases f <;> rfl
    | nil => cases f <;> first | rfl | cases h
  | _ => rfl
theorem starEach_cons {e : PySem.Expr} {es : List PySem.Expr} {env : Env} (h : (!isStar e) = true) (ih : starEach es env = es.map fun e => (false, eval e env)) : starEach (e :: es) env = (e :: es).map fun e => (false, eval e env) := by
  show _ = (false, eval e env) :: _
  rw [← ih]
  cases e <;> first
    | rfl
    | cases h
theorem starEach_of (Γ : Cfg) (S : Sc) : ∀ {ms : List ME} {es : List PySem.Expr}, okEs Γ S ms es = true → ∀ env, starEach es env = es.map fun e => (false, eval e env)
  | [], es, h, _ => by obtain rfl := List.isEmpty_iff.mp h; rfl
  | m :: ms, [], h, _ => by cases h
  | m :: ms, e :: es, h, env => starEach_cons (an2 h).1 (starEach_of Γ S (an2 (an2 h).2).2 env)
theorem back_of (pos : Pos) (es : List PySem.Expr) (env : Env) : backTo pos (es.map fun e => (false, eval e env)) = es.map fun e => (false, eval e env) := by
  unfold backTo
  rw [List.map_map]
  rfl
section
variable {Γ : Cfg} {S : Sc} {pe : PySem.Expr}
theorem ok_var {i : Nat} (h : okE Γ S (.var i) pe = true) : ∃ x p, pe = .Name x p ∧ S.nm[i]? = some x ∧ notDbg x = true ∧ varK (S.sc.names.lookup x) = true := by
  obtain ⟨x, p, rfl, w1⟩ := onName_inv h
  obtain ⟨y, hy, w2⟩ := onSome_inv w1
  obtain ⟨w3, w4⟩ := an2 w2
  obtain ⟨w5, w6⟩ := an2 w4
  obtain rfl := sb_eq w3
  exact ⟨x, p, rfl, hy, w5, lkS_eq ▸ w6⟩
theorem ok_gl {j : Nat} (h : okE Γ S (.gl j) pe = true) : ∃ x pos p, pe = .Name x pos ∧ Γ.gl[j]? = some p ∧ x = p.1 ∧ isG S x = true := by
  obtain ⟨x, q, rfl, w1⟩ := onName_inv h
  obtain ⟨p, hp, w2⟩ := onSome_inv w1
  obtain ⟨w3, w4⟩ := an2 w2
  exact ⟨x, q, p, rfl, hp, sb_eq w3, w4⟩
theorem ok_int {i : Int} (h : okE Γ S (.int i) pe = true) : ∃ k p, pe = .Constant (.int i) k p := by
  obtain ⟨c, k, p, rfl, w1⟩ := onConst_inv h
  obtain rfl := cInt_inv w1
  exact ⟨k, p, rfl⟩
theorem ok_str {i : Str} (h : okE Γ S (.str i) pe = true) : ∃ k p, pe = .Constant (.str i) k p := by
  obtain ⟨c, k, p, rfl, w1⟩ := onConst_inv h
  obtain rfl := cStr_inv w1
  exact ⟨k, p, rfl⟩
theorem ok_none (h : okE Γ S (.none) pe = true) : ∃ k p, pe = .Constant .none k p := by
  exact isNoneC_inv h
theorem ok_bool {i : Bool} (h : okE Γ S (.bool i) pe = true) : ∃ k p, pe = .Constant (.bool i) k p := by
  obtain ⟨c, k, p, rfl, w1⟩ := onConst_inv h
  obtain rfl := cBool_inv w1
  exact ⟨k, p, rfl⟩
theorem ok_neg {a : ME} (h : okE Γ S (.neg a) pe = true) : ∃ e pos, pe = .UnaryOp .USub e pos ∧ okE Γ S a e = true := by
  obtain ⟨o, x, p, rfl, w1⟩ := onUn_inv h
  obtain ⟨w2, w3⟩ := an2 w1
  obtain rfl := of_decide_eq_true w2
  exact ⟨x, p, rfl, w3⟩
theorem ok_not {a : ME} (h : okE Γ S (.not a) pe = true) : ∃ e pos, pe = .UnaryOp .Not e pos ∧ okE Γ S a e = true := by
  obtain ⟨o, x, p, rfl, w1⟩ := onUn_inv h
  obtain ⟨w2, w3⟩ := an2 w1
  obtain rfl := of_decide_eq_true w2
  exact ⟨x, p, rfl, w3⟩
theorem ok_bin {o : Bop} {a b : ME} (h : okE Γ S (.bin o a b) pe = true) : ∃ l r pos, pe = .BinOp l (opOf o) r pos ∧ okE Γ S a l = true ∧ okE Γ S b r = true := by
  obtain ⟨l, op, r, p, rfl, w1⟩ := onBin_inv h
  obtain ⟨w2, w3⟩ := an2 w1
  obtain rfl := of_decide_eq_true w2
  exact ⟨l, r, p, rfl, an2 w3⟩
theorem ok_rep {a b : ME} (h : okE Γ S (.rep a b) pe = true) : ∃ l p r pos, pe = .BinOp (.List [l] p) .Mult r pos ∧ (!isStar l) = true ∧ okE Γ S a l = true ∧ okE Γ S b r = true := by
  obtain ⟨l, op, r, p, rfl, w1⟩ := onBin_inv h
  obtain ⟨w2, w3⟩ := an2 w1
  obtain rfl := of_decide_eq_true w2
  obtain ⟨l, q, rfl, w4⟩ := onList_inv w3
  obtain ⟨x, rfl, w5⟩ := on1_inv w4
  obtain ⟨w6, w7⟩ := an2 w5
  exact ⟨x, q, r, p, rfl, w6, an2 w7⟩
theorem ok_cmp {o : Cop} {a b : ME} (h : okE Γ S (.cmp o a b) pe = true) : ∃ l r pos, pe = .Compare l [copOf o] [r] pos ∧ notSet r = true ∧ okE Γ S a l = true ∧ okE Γ S b r = true := by
  obtain ⟨l, op, r, p, rfl, w1⟩ := onCmp_inv h
  obtain ⟨op, rfl, w2⟩ := on1_inv w1
  obtain ⟨r, rfl, w3⟩ := on1_inv w2
  obtain ⟨w4, w5⟩ := an2 w3
  obtain rfl := of_decide_eq_true w4
  obtain ⟨w6, w7⟩ := an2 w5
  exact ⟨l, r, p, rfl, w6, an2 w7⟩
theorem ok_neE {a : ME} (h : okE Γ S (.neE a) pe = true) : ∃ l p pos, pe = .Compare l [.NotEq] [.List [] p] pos ∧ okE Γ S a l = true := by
  obtain ⟨l, op, r, p, rfl, w1⟩ := onCmp_inv h
  obtain ⟨op, rfl, w2⟩ := on1_inv w1
  obtain ⟨r, rfl, w3⟩ := on1_inv w2
  obtain ⟨w4, w5⟩ := an2 w3
  obtain rfl := of_decide_eq_true w4
  obtain ⟨w6, w7⟩ := an2 w5
  obtain ⟨q, rfl⟩ := isNilL_inv w6
  exact ⟨l, q, p, rfl, w7⟩
theorem ok_chain {o p : Cop} {a b c : ME} (h : okE Γ S (.chain o p a b c) pe = true) : ∃ l r r' pos, pe = .Compare l [copOf o, copOf p] [r, r'] pos ∧ notSet r = true ∧ notSet r' = true ∧ okE Γ S a l = true ∧ okE Γ S b r = true ∧ okE Γ S c r' = true := by
  obtain ⟨l, op, r, q, rfl, w1⟩ := onCmp_inv h
  obtain ⟨o1, o2, rfl, w2⟩ := on2_inv w1
  obtain ⟨r1, r2, rfl, w3⟩ := on2_inv w2
  obtain ⟨w4, w5⟩ := an2 w3
  obtain rfl := of_decide_eq_true w4
  obtain ⟨w6, w7⟩ := an2 w5
  obtain rfl := of_decide_eq_true w6
  obtain ⟨w8, w9⟩ := an2 w7
  obtain ⟨w10, w11⟩ := an2 w9
  obtain ⟨w12, w13⟩ := an2 w11
  exact ⟨l, r1, r2, q, rfl, w8, w10, w12, an2 w13⟩
theorem ok_isN {ng : Bool} {a : ME} (h : okE Γ S (.isN ng a) pe = true) : ∃ l i p pos, pe = .Compare l [if ng then .IsNot else .Is] [.Constant .none i p] pos ∧ okE Γ S a l = true := by
  obtain ⟨l, op, r, p, rfl, w1⟩ := onCmp_inv h
  obtain ⟨op, rfl, w2⟩ := on1_inv w1
  obtain ⟨r, rfl, w3⟩ := on1_inv w2
  obtain ⟨w4, w5⟩ := an2 w3
  obtain rfl := of_decide_eq_true w4
  obtain ⟨w6, w7⟩ := an2 w5
  obtain ⟨i, q, rfl⟩ := isNoneC_inv w6
  exact ⟨l, i, q, p, rfl, w7⟩
theorem ok_isIn {ng : Bool} {a b : ME} (h : okE Γ S (.isIn ng a b) pe = true) : ∃ l r pos, pe = .Compare l [if ng then .NotIn else .In] [r] pos ∧ notSet r = true ∧ okE Γ S a l = true ∧ okE Γ S b r = true := by
  obtain ⟨l, op, r, p, rfl, w1⟩ := onCmp_inv h
  obtain ⟨op, rfl, w2⟩ := on1_inv w1
  obtain ⟨r, rfl, w3⟩ := on1_inv w2
  obtain ⟨w4, w5⟩ := an2 w3
  obtain rfl := of_decide_eq_true w4
  obtain ⟨w6, w7⟩ := an2 w5
  exact ⟨l, r, p, rfl, w6, an2 w7⟩
theorem ok_ands {es : List ME} (h : okE Γ S (.ands es) pe = true) : ∃ vs pos, pe = .BoolOp .And vs pos ∧ okEs Γ S es vs = true ∧ vs ≠ [] := by
  obtain ⟨o, vs, p, rfl, w1⟩ := onBool_inv h
  obtain ⟨w2, w3⟩ := an2 w1
  obtain rfl := of_decide_eq_true w2
  obtain ⟨w4, w5⟩ := an2 w3
  exact ⟨vs, p, rfl, w4, ne_of w5⟩
theorem ok_ors {es : List ME} (h : okE Γ S (.ors es) pe = true) : ∃ vs pos, pe = .BoolOp .Or vs pos ∧ okEs Γ S es vs = true ∧ vs ≠ [] := by
  obtain ⟨o, vs, p, rfl, w1⟩ := onBool_inv h
  obtain ⟨w2, w3⟩ := an2 w1
  obtain rfl := of_decide_eq_true w2
  obtain ⟨w4, w5⟩ := an2 w3
  exact ⟨vs, p, rfl, w4, ne_of w5⟩
theorem ok_ite {c a b : ME} (h : okE Γ S (.ite c a b) pe = true) : ∃ t x y pos, pe = .IfExp t x y pos ∧ okE Γ S c t = true ∧ okE Γ S a x = true ∧ okE Γ S b y = true := by
  obtain ⟨t, x, y, p, rfl, w1⟩ := onIf_inv h
  obtain ⟨w2, w3⟩ := an2 w1
  exact ⟨t, x, y, p, rfl, w2, an2 w3⟩
theorem ok_call {j : Nat} {es : List ME} (h : okE Γ S (.call j es) pe = true) : ∃ f p0 args pos p, pe = .Call (.Name f p0) args [] pos ∧ Γ.fn[j]? = some p ∧ f = p.1 ∧ isG S f = true ∧ okEs Γ S es args = true := by
  obtain ⟨f, q, a, p, rfl, w1⟩ := onFn_inv h
  obtain ⟨y, hy, w2⟩ := onSome_inv w1
  obtain ⟨w3, w4⟩ := an2 w2
  exact ⟨f, q, a, p, y, rfl, hy, sb_eq w3, an2 w4⟩
theorem ok_mcall {j : Nat} {o : ME} {es : List ME} (h : okE Γ S (.mcall j o es) pe = true) : ∃ oe name apos args pos p, pe = .Call (.Attribute oe name apos) args [] pos ∧ Γ.mt[j]? = some p ∧ name = p.name ∧ baseOk oe = true ∧ (apos.endLine == pos.line) = true ∧ args.length < 20 ∧ okE Γ S o oe = true ∧ okEs Γ S es args = true := by
  obtain ⟨o, n, q, a, p, rfl, w1, w2, w3, w4⟩ := onMt_inv h
  obtain ⟨y, hy, w5⟩ := onSome_inv w4
  obtain ⟨w6, w7⟩ := an2 w5
  exact ⟨o, n, q, a, p, y, rfl, hy, sb_eq w6, w1, w2, w3, an2 w7⟩
theorem ok_attr {j : Nat} {o : ME} (h : okE Γ S (.attr j o) pe = true) : ∃ oe name apos p, pe = .Attribute oe name apos ∧ Γ.at_[j]? = some p ∧ name = p.name ∧ baseOk oe = true ∧ okE Γ S o oe = true := by
  obtain ⟨o, n, q, rfl, w1⟩ := onAttr_inv h
  obtain ⟨y, hy, w2⟩ := onSome_inv w1
  obtain ⟨w3, w4⟩ := an2 w2
  exact ⟨o, n, q, y, rfl, hy, sb_eq w3, an2 w4⟩
theorem ok_bi {b : Bi} {es : List ME} (h : okE Γ S (.bi b es) pe = true) : ∃ f p0 args pos, pe = .Call (.Name f p0) args [] pos ∧ f = Str.ofString (biName b) ∧ isG S f = true ∧ okEs Γ S es args = true ∧ args ≠ [] := by
  obtain ⟨f, q, a, p, rfl, w1⟩ := onFn_inv h
  obtain ⟨w2, w3⟩ := an2 w1
  obtain ⟨w4, w5⟩ := an2 w3
  obtain ⟨w6, w7⟩ := an2 w5
  exact ⟨f, q, a, p, rfl, sb_eq w2, w4, w6, ne_of w7⟩
theorem ok_meth {mk : Mk} {o : ME} {es : List ME} (h : okE Γ S (.meth mk o es) pe = true) : ∃ oe name apos args pos, pe = .Call (.Attribute oe name apos) args [] pos ∧ name = Str.ofString (mkName mk) ∧ baseOk oe = true ∧ (apos.endLine == pos.line) = true ∧ args.length < 20 ∧ okE Γ S o oe = true ∧ okEs Γ S es args = true ∧ args ≠ [] := by
  obtain ⟨o, n, q, a, p, rfl, w1, w2, w3, w4⟩ := onMt_inv h
  obtain ⟨w5, w6⟩ := an2 w4
  obtain ⟨w7, w8⟩ := an2 w6
  obtain ⟨w9, w10⟩ := an2 w8
  exact ⟨o, n, q, a, p, rfl, sb_eq w5, w1, w2, w3, w7, w9, ne_of w10⟩
theorem ok_list {es : List ME} (h : okE Γ S (.list es) pe = true) : ∃ args pos, pe = .List args pos ∧ es.length ≤ 1000 ∧ okEs Γ S es args = true := by
  obtain ⟨l, p, rfl, w1⟩ := onList_inv h
  obtain ⟨w2, w3⟩ := an2 w1
  exact ⟨l, p, rfl, of_decide_eq_true w2, w3⟩
theorem ok_tup {es : List ME} (h : okE Γ S (.tup es) pe = true) : ∃ args c pos, pe = .Tuple args c pos ∧ es.length ≤ 1000 ∧ okEs Γ S es args = true := by
  obtain ⟨l, c, p, rfl, w1⟩ := onTup_inv h
  obtain ⟨w2, w3⟩ := an2 w1
  exact ⟨l, c, p, rfl, of_decide_eq_true w2, w3⟩
theorem ok_idx {a i : ME} (h : okE Γ S (.idx a i) pe = true) : ∃ v s pos, pe = .Subscript v s pos ∧ notSlice s = true ∧ okE Γ S a v = true ∧ okE Γ S i s = true := by
  obtain ⟨v, s, p, rfl, w1⟩ := onSub_inv h
  obtain ⟨w2, w3⟩ := an2 w1
  exact ⟨v, s, p, rfl, w2, an2 w3⟩
theorem ok_slc {a : ME} {lo hi : List ME} (h : okE Γ S (.slc a lo hi) pe = true) : ∃ v l h p pos, pe = .Subscript v (.Slice l h Option.none p) pos ∧ okE Γ S a v = true ∧ okO Γ S lo l = true ∧ okO Γ S hi h = true := by
  obtain ⟨v, s, p, rfl, w1⟩ := onSub_inv h
  obtain ⟨l, u, s, q, rfl, w2⟩ := onSlice_inv w1
  obtain ⟨w3, w4⟩ := an2 w2
  obtain rfl := isNo_inv w3
  obtain ⟨w5, w6⟩ := an2 w4
  exact ⟨v, l, u, q, p, rfl, w5, an2 w6⟩
theorem ok_rev {a : ME} (h : okE Γ S (.rev a) pe = true) : ∃ v i p1 p2 p3 pos, pe = .Subscript v (.Slice Option.none Option.none (some (.UnaryOp .USub (.Constant (.int 1) i p1) p2)) p3) pos ∧ okE Γ S a v = true := by
  obtain ⟨v, s, p, rfl, w1⟩ := onSub_inv h
  obtain ⟨l, u, s, q, rfl, w2⟩ := onSlice_inv w1
  obtain ⟨w3, w4⟩ := an2 w2
  obtain rfl := isNo_inv w3
  obtain ⟨w5, w6⟩ := an2 w4
  obtain rfl := isNo_inv w5
  obtain ⟨s, rfl, w7⟩ := onSome_inv w6
  obtain ⟨w8, w9⟩ := an2 w7
  obtain ⟨i, p1, p2, rfl⟩ := isMinus1_inv w8
  exact ⟨v, i, p1, p2, q, p, rfl, w9⟩
theorem ok_comp {elt it : ME} {cond : List ME} (h : okE Γ S (.comp elt it cond) pe = true) : ∃ e x px iter ifs sc pos, pe = .ListComp e [⟨.Name x px, iter, ifs, 0⟩] sc pos ∧ notSet iter = true ∧ okE Γ S it iter = true ∧ compSc S x sc = true ∧ okE Γ ⟨hideN x S.nm ++ [x], sc⟩ elt e = true ∧ okEs Γ ⟨hideN x S.nm ++ [x], sc⟩ cond ifs = true ∧ ifs.length ≤ 1 := by
  obtain ⟨e, x, q, i, c, s, p, rfl, w1, w2⟩ := onGen_inv h
  obtain ⟨w3, w4⟩ := an2 w2
  obtain ⟨w5, w6⟩ := an2 w4
  obtain ⟨w7, w8⟩ := an2 w6
  obtain ⟨w9, w10⟩ := an2 w8
  exact ⟨e, x, q, i, c, s, p, rfl, w3, w5, w7, w9, w10, w1⟩
theorem ok_compR {elt : ME} {rg cond : List ME} (h : okE Γ S (.compR elt rg cond) pe = true) : ∃ e x px f p0 args p1 ifs sc pos, pe = .ListComp e [⟨.Name x px, .Call (.Name f p0) args [] p1, ifs, 0⟩] sc pos ∧ f = Str.ofString "range" ∧ isG S f = true ∧ okEs Γ S rg args = true ∧ args ≠ [] ∧ compSc S x sc = true ∧ okE Γ ⟨hideN x S.nm ++ [x], sc⟩ elt e = true ∧ okEs Γ ⟨hideN x S.nm ++ [x], sc⟩ cond ifs = true ∧ ifs.length ≤ 1 := by
  obtain ⟨e, x, q, i, c, s, p, rfl, w1, w2⟩ := onGen_inv h
  obtain ⟨f, q1, a, p1, rfl, w3⟩ := onFn_inv w2
  obtain ⟨w4, w5⟩ := an2 w3
  obtain ⟨w6, w7⟩ := an2 w5
  obtain ⟨w8, w9⟩ := an2 w7
  obtain ⟨w10, w11⟩ := an2 w9
  obtain ⟨w12, w13⟩ := an2 w11
  obtain ⟨w14, w15⟩ := an2 w13
  exact ⟨e, x, q, f, q1, a, p1, c, s, p, rfl, sb_eq w4, w6, w8, ne_of w10, w12, w14, w15, w1⟩
end
inductive NmOk (L : Addr) (env : Env) (m : Str → Option Value) (T : Led) (Mu : List Addr) (x : Str) (v : Value) : Prop where
  | loc : env.kindOf x = some .local → env.locals = L → m x = some v → NmOk L env m T Mu x v
  | own (o : Obj) (m₂ : Str → Option Value) : env.kindOf x = some .local → (env.locals, o) ∈ T → env.locals ∉ Mu → LCg.NsObj o m₂ → m₂ x = some v → NmOk L env m T Mu x v
  | cell (c : Addr) (o : Obj) : env.kindOf x = some .cell → env.cells.lookup x = some c → (c, o) ∈ T → c ∉ Mu → o.data = .cell (some v) → NmOk L env m T Mu x v
theorem NmOk.step {L : Addr} {env : Env} {m : Str → Option Value} {T T' : Led} {X X' Mu Mu' : List Addr} {x : Str} {v : Value} (h : NmOk L env m T Mu x v) (s : Stp T X Mu T' X' Mu') : NmOk L env m T' Mu' x v := by
  cases h with
  | loc a b c => exact .loc a b c
  | own o m₂ a b c d e => exact .own o m₂ a (s.keep _ b c) (fun q => c (s.mnew _ b q)) d e
  | cell c o a b d e f => exact .cell c o a b (s.keep _ d e) (fun q => e (s.mnew _ d q)) f
structure EnvOk (C : Cx) (L : Addr) (env : Env) (S : Sc) (m : Str → Option Value) (T : Led) (X Mu : List Addr) (loc : List D) : Prop where
  kind : env.scope.kind = .function
  gs : env.globals = mainGlobals
  bs : env.builtins = builtinsNs
  len : loc.length = S.nm.length
  gl : ∀ x, S.sc.names.lookup x = some .globalImplicit → env.kindOf x = some .globalImplicit
  rd : ∀ (i : Nat) x d, S.nm[i]? = some x → varK (S.sc.names.lookup x) = true → loc[i]? = some d → d.isDef = true → ∃ v, NmOk L env m T Mu x v ∧ Rd C.B T X v d
  cell : ∀ x, S.sc.names.lookup x = some .cell → env.kindOf x = some .cell ∧ ∃ c, env.cells.lookup x = some c
theorem EnvOk.step {C : Cx} {L : Addr} {env : Env} {S : Sc} {m : Str → Option Value} {T T' : Led} {X X' Mu Mu' : List Addr} {loc : List D} (h : EnvOk C L env S m T X Mu loc) (s : Stp T X Mu T' X' Mu') (hm : ∀ x ∈ Mu, x ∈ X) : EnvOk C L env S m T' X' Mu' loc :=
  ⟨h.kind, h.gs, h.bs, h.len, h.gl, fun i x d a b c e => let ⟨v, p, q⟩ := h.rd i x d a b c e; ⟨v, p.step s, Rd.lift (s.lift hm) _ _ q⟩, h.cell⟩
structure St (C : Cx) (n : Nat) (S : Sc) (A A₀ : Around) (fenv : Env) (outer : List Env) (h₀ : Heap) (L : Addr) (env : Env) (s : Shared) (m : Str → Option Value) (T : Led) (X : List Addr) (μ : Mem) (loc : List D) : Prop where
  F : Fm C n A A₀ fenv outer h₀ L
  V : EnvOk C L env S m T X (keys μ) loc
  O : Ok C h₀ L s m T X μ
section
variable {C : Cx} {n : Nat} {S : Sc} {A A₀ : Around} {fenv : Env} {outer : List Env} {h₀ : Heap} {L : Addr} {env : Env} {s s' : Shared} {m : Str → Option Value} {T T' : Led} {X X' : List Addr} {μ μ' : Mem} {loc : List D}
theorem St.next (H : St C n S A A₀ fenv outer h₀ L env s m T X μ loc) (O : Ok C h₀ L s' m T' X' μ') (st : Stp T X (keys μ) T' X' (keys μ')) : St C n S A A₀ fenv outer h₀ L env s' m T' X' μ' loc :=
  ⟨H.F, H.V.step st H.O.sub, O⟩
theorem PE.next {k : KE} {Q : Value → Shared → Prop} (O : Ok C h₀ L s m T X μ) (P : PE C h₀ L s m T X μ k Q) {h' : Heap} {tk : Nat} (st : Stp T X (keys μ) T' X' (keys μ')) : PE C h₀ L { s with heap := h', toks := tk } m T' X' μ' k Q :=
  fun v d h'' tk' T'' X'' μ'' O'' st' r hk => P v d h'' tk' T'' X'' μ'' O'' (st.trans st' O.sub) r hk
noncomputable def PT (C : Cx) (h₀ : Heap) (L : Addr) (s : Shared) (m : Str → Option Value) (T : Led) (X : List Addr) (μ : Mem) (k : KE) (Q : Bool → Shared → Prop) : Prop :=
  ∀ b h' tk T' X' μ', Ok C h₀ L { s with heap := h', toks := tk } m T' X' μ' → Stp T X (keys μ) T' X' (keys μ') → k (.bool b) μ' → Q b { s with heap := h', toks := tk }
theorem PT.next {k : KE} {Q : Bool → Shared → Prop} (O : Ok C h₀ L s m T X μ) (P : PT C h₀ L s m T X μ k Q) {h' : Heap} {tk : Nat} (st : Stp T X (keys μ) T' X' (keys μ')) : PT C h₀ L { s with heap := h', toks := tk } m T' X' μ' k Q :=
  fun b h'' tk' T'' X'' μ'' O'' st' hk => P b h'' tk' T'' X'' μ'' O'' (st.trans st' O.sub) hk
noncomputable def PL (C : Cx) (h₀ : Heap) (L : Addr) (s : Shared) (m : Str → Option Value) (T : Led) (X : List Addr) (μ : Mem) (n : Nat) (k : List D → Mem → Prop) (Q : List Value → Shared → Prop) : Prop :=
  ∀ vs ds h' tk T' X' μ', vs.length = n → Ok C h₀ L { s with heap := h', toks := tk } m T' X' μ' → Stp T X (keys μ) T' X' (keys μ') → Rds C.B T' X' vs ds → k ds μ' → Q vs { s with heap := h', toks := tk }
end
noncomputable def BoolK (k : KE) : Prop := ∀ d μ, k d μ → ∃ b, d = .bool b
noncomputable def SE (C : Cx) (Γ : Cfg) (n : Nat) (e : ME) : Prop := ∀ (S : Sc) (pe : PySem.Expr), okE Γ S e pe = true → ∀ A A₀ fenv outer h₀ L env s m T X μ loc Q E k,
  St C n S A A₀ fenv outer h₀ L env s m T X μ loc → vcE Γ e loc μ k → PE C h₀ L s m T X μ k Q → wpAny (model C.prog C.w) A (eval pe env) Q E s
noncomputable def SB (C : Cx) (Γ : Cfg) (n : Nat) (e : ME) : Prop := ∀ (S : Sc) (pe : PySem.Expr), okE Γ S e pe = true → ∀ A A₀ fenv outer h₀ L env s m T X μ loc Q E k,
  St C n S A A₀ fenv outer h₀ L env s m T X μ loc → vcE Γ e loc μ k → BoolK k → PT C h₀ L s m T X μ k Q → wpAny (model C.prog C.w) A (isTrue pe env (eval pe env)) Q E s
noncomputable def SL (C : Cx) (Γ : Cfg) (n : Nat) (es : List ME) : Prop := ∀ (S : Sc) (ps : List PySem.Expr), okEs Γ S es ps = true → ∀ A A₀ fenv outer h₀ L env s m T X μ loc Q E k,
  St C n S A A₀ fenv outer h₀ L env s m T X μ loc → vcEs Γ es loc μ k → PL C h₀ L s m T X μ es.length k Q → wpAny (model C.prog C.w) A (spliced (ps.map fun e => (false, eval e env))) Q E s
theorem SL_nil {C : Cx} {Γ : Cfg} {n : Nat} : SL C Γ n [] := by
  intro S ps ok A A₀ fenv outer h₀ L env s m T X μ loc Q E k H v P
  cases ps with
  | nil =>
    exact spliced_nil (P [] [] s.heap s.toks T X μ rfl (H.O.same _) (.refl ..) .nil v)
  | cons _ _ => cases ok
theorem SL_cons {C : Cx} {Γ : Cfg} {n : Nat} {e : ME} {es : List ME} (a : SE C Γ n e) (b : SL C Γ n es) : SL C Γ n (e :: es) := by
  intro S ps ok A A₀ fenv outer h₀ L env s m T X μ loc Q E k H v P
  cases ps with
  | nil => cases ok
  | cons p ps =>
    have ok := okEs_cons ok
    refine spliced_cons (a S p ok.1 A A₀ fenv outer h₀ L env s m T X μ loc _ E _ H v fun v₁ d h₁ tk₁ T₁ X₁ μ₁ O₁ st₁ r₁ hk₁ => ?_)
    refine b S ps ok.2 A A₀ fenv outer h₀ L env _ m T₁ X₁ μ₁ loc _ E _ (H.next O₁ st₁) hk₁ fun vs ds h₂ tk₂ T₂ X₂ μ₂ hl O₂ st₂ r₂ hk₂ => ?_
    exact P (v₁ :: vs) (d :: ds) h₂ tk₂ T₂ X₂ μ₂ (by simp [hl]) O₂ (st₁.trans st₂ H.O.sub) (.cons (Rd.lift (st₂.lift O₁.sub) _ _ r₁) r₂) hk₂
section
variable {C : Cx} {n : Nat} {S : Sc} {A A₀ : Around} {fenv : Env} {outer : List Env} {h₀ : Heap} {L : Addr} {env : Env} {s : Shared} {m : Str → Option Value} {T : Led} {X : List Addr} {μ : Mem} {loc : List D} {Q : Value → Shared → Prop} {E : Value → Shared → Prop}
theorem St.nmOk (H : St C n S A A₀ fenv outer h₀ L env s m T X μ loc) {x : Str} {pos : Pos} {v : Value} (hx : NmOk L env m T (keys μ) x v) (hd : (x == ("__debug__" : Str)) = false) (h : Q v s) : wpAny (model C.prog C.w) A (eval (.Name x pos) env) Q E s := by
  cases hx with
  | loc a b c => exact wpAny_Name (wpAny_loadName_local H.V.kind a (b ▸ H.O.F.ns) c h) hd
  | own o m₂ a b c d e => exact wpAny_Name (wpAny_loadName_local H.V.kind a (d.ns (H.O.N _ b).1) e h) hd
  | cell c o a b d e f => exact wpAny_Name (wpAny_loadName_cell H.V.kind a b ⟨o, (H.O.N _ d).1, f⟩ h) hd
theorem St.wd (H : St C n S A A₀ fenv outer h₀ L env s m T X μ loc) : Wd C s.heap := H.F.wd.keeps H.O.F.keep
theorem St.glob (H : St C n S A A₀ fenv outer h₀ L env s m T X μ loc) {x : Str} {pos : Pos} {v : Value} (hx : isG S x = true) (hv : C.mg x = some v) (h : Q v s) : wpAny (model C.prog C.w) A (eval (.Name x pos) env) Q E s :=
  let ⟨a, b⟩ := isG_of hx
  Name_function_global H.V.kind (H.V.gl _ a) (loadGlobal_global (H.V.gs ▸ H.wd.g) hv h) b
theorem St.builtin (H : St C n S A A₀ fenv outer h₀ L env s m T X μ loc) {x : Str} {pos : Pos} {v : Value} (hx : isG S x = true) (hv : C.mg x = none) (hb : C.mb x = some v) (h : Q v s) : wpAny (model C.prog C.w) A (eval (.Name x pos) env) Q E s :=
  let ⟨a, b⟩ := isG_of hx
  Name_function_global H.V.kind (H.V.gl _ a) (loadGlobal_builtin (H.V.gs ▸ H.wd.g) hv (H.V.bs ▸ H.wd.b) hb h) b
end
section
variable {C : Cx} {Γ : Cfg} {n : Nat}
theorem var_inv {i : Nat} {loc : List D} {μ : Mem} {k : KE} (v : vcE Γ (.var i) loc μ k) : (loc.getD i .undef).isDef = true ∧ k (loc.getD i .undef) μ := onB_inv v
theorem SE_var {i : Nat} : SE C Γ n (.var i) := by
  intro S pe ok A A₀ fenv outer h₀ L env s m T X μ loc Q E k H v P
  obtain ⟨x, p, rfl, hy, h2, h3⟩ := ok_var ok
  obtain ⟨hd, hk⟩ := var_inv v
  cases hi : loc[i]? with
  | none => rw [List.getD_eq_getElem?_getD, hi] at hd; cases hd
  | some d =>
    have e : loc.getD i .undef = d := by rw [List.getD_eq_getElem?_getD, hi]; rfl
    rw [e] at hd hk
    obtain ⟨v, hn, hr⟩ := H.V.rd i _ d hy h3 hi hd
    exact H.nmOk hn (notDbg_of h2) (P.here0 H.O hr hk)
theorem SE_int {i : Int} : SE C Γ n (.int i) := by
  intro S pe ok A A₀ fenv outer h₀ L env s m T X μ loc Q E k H v P
  obtain ⟨_, p, rfl⟩ := ok_int ok
  exact wpAny_Constant_int (P.here H.O _ to_int v)
theorem SE_str {i : Str} : SE C Γ n (.str i) := by
  intro S pe ok A A₀ fenv outer h₀ L env s m T X μ loc Q E k H v P
  obtain ⟨_, p, rfl⟩ := ok_str ok
  exact PySem.wpAny_Constant_str (P.here H.O _ to_str v)
theorem SE_none : SE C Γ n .none := by
  intro S pe ok A A₀ fenv outer h₀ L env s m T X μ loc Q E k H v P
  obtain ⟨_, p, rfl⟩ := ok_none ok
  exact wpAny_Constant_none (P.here0 H.O to_none v)
theorem SE_bool {b : Bool} : SE C Γ n (.bool b) := by
  intro S pe ok A A₀ fenv outer h₀ L env s m T X μ loc Q E k H v P
  obtain ⟨_, p, rfl⟩ := ok_bool ok
  exact wpAny_Constant_bool (P.here0 H.O to_bool v)
end
section
variable {C : Cx} {n : Nat} {S : Sc} {A A₀ : Around} {fenv : Env} {outer : List Env} {h₀ : Heap} {L : Addr} {env : Env} {s : Shared} {m : Str → Option Value} {T : Led} {X : List Addr} {μ : Mem} {loc : List D} {Q : Value → Shared → Prop} {E : Value → Shared → Prop}
theorem Ok.offT (O : Ok C h₀ L s m T X μ) : ∀ p ∈ T, p.1 ≠ s.heap.objs.size := fun p hp e => Nat.lt_irrefl _ (e ▸ Heap.lt_size (O.N p hp).1)
theorem stp_new {a : Addr} {o : Obj} {mo : MO} (hT : ∀ p ∈ T, p.1 ≠ a) : Stp T X (keys μ) ((a, o) :: T) (a :: X) (keys ((a, mo) :: μ)) :=
  ⟨fun p hp _ => .tail _ hp, fun x hx => .tail _ hx, fun p hp hx => (List.mem_cons.mp hx).resolve_left (hT p hp), fun p hp hx => (List.mem_cons.mp hx).resolve_left (hT p hp), fun _ h => .tail _ h⟩
theorem Ok.newO (O : Ok C h₀ L s m T X μ) {a : Addr} {o : Obj} {mo : MO} {h' : Heap} {tk : Nat} (hT : ∀ p ∈ T, p.1 ≠ a) (F : Fr h₀ L h' m) (N : News h₀ L h' ((a, o) :: T)) (r : MOk C ((a, o) :: T) (a :: X) (a, mo)) :
    Ok C h₀ L { s with heap := h', toks := tk } m ((a, o) :: T) (a :: X) ((a, mo) :: μ) := by
  refine ⟨F, N, fun x hx => ?_, fun b hb => ?_, fun b hb => ?_, O.st⟩
  · rcases List.mem_cons.mp hx with rfl | hx
    · exact r
    · exact (O.M x hx).step (stp_new (mo := mo) hT) O.sub (fun h => h (List.mem_map_of_mem hx)) fun p hp _ => .tail _ hp
  · rcases List.mem_cons.mp hb with rfl | hb
    · exact .head _
    · exact .tail _ (O.sub _ hb)
  · rcases List.mem_cons.mp hb with rfl | hb
    · exact ⟨o, .head _⟩
    · obtain ⟨o', h⟩ := O.xin _ hb; exact ⟨o', .tail _ h⟩
theorem lookM_none {a : Addr} : ∀ {μ : Mem}, a ∉ keys μ → lookM μ a = none
  | [], _ => rfl
  | (b, o) :: r, h => by
    rw [look_c]
    have h1 : b ≠ a := fun e => h (e ▸ .head _)
    rw [if_neg h1]
    exact lookM_none fun q => h (.tail _ q)
theorem Ok.freshM (O : Ok C h₀ L s m T X μ) : lookM μ s.heap.objs.size = none := lookM_none fun q => O.fresh (O.sub _ q)
theorem SE.two {Γ : Cfg} {e1 e2 : ME} (a : SE C Γ n e1) (b : SE C Γ n e2) {p1 p2 : PySem.Expr} (ok1 : okE Γ S e1 p1 = true) (ok2 : okE Γ S e2 p2 = true) {k2 : D → D → Mem → Prop} {R : Value → Value → Shared → Prop}
    (H : St C n S A A₀ fenv outer h₀ L env s m T X μ loc) (v : vcE Γ e1 loc μ fun x μ1 => vcE Γ e2 loc μ1 fun y μ2 => k2 x y μ2)
    (c : ∀ va vb x y h' tk T' X' μ', St C n S A A₀ fenv outer h₀ L env { s with heap := h', toks := tk } m T' X' μ' loc → Stp T X (keys μ) T' X' (keys μ') → Rd C.B T' X' va x → Rd C.B T' X' vb y → k2 x y μ' → R va vb { s with heap := h', toks := tk }) :
    wpAny (model C.prog C.w) A (eval p1 env) (fun va s1 => wpAny (model C.prog C.w) A (eval p2 env) (fun vb s2 => R va vb s2) E s1) E s := by
  refine a S p1 ok1 A A₀ fenv outer h₀ L env s m T X μ loc _ E _ H v fun va x h1 tk1 T1 X1 μ1 O1 st1 r1 k1 => ?_
  refine b S p2 ok2 A A₀ fenv outer h₀ L env _ m T1 X1 μ1 loc _ E _ (H.next O1 st1) k1 fun vb y h2 tk2 T2 X2 μ2 O2 st2 r2 k2 => ?_
  exact c va vb x y h2 tk2 T2 X2 μ2 (H.next O2 (st1.trans st2 H.O.sub)) (st1.trans st2 H.O.sub) (Rd.lift (st2.lift O1.sub) _ _ r1) r2 k2
end
section
variable {C : Cx} {Γ : Cfg} {n : Nat}
theorem SE_bin {o : Bop} {a b : ME} (ha : SE C Γ n a) (hb : SE C Γ n b) : SE C Γ n (.bin o a b) := by
  intro S pe ok A A₀ fenv outer h₀ L env s m T X μ loc Q E k H v P
  obtain ⟨l, r, pos, rfl, ok1, ok2⟩ := ok_bin ok
  refine wpAny_BinOp (SE.two ha hb ok1 ok2 H v fun va vb x y h' tk T' X' μ' H' st rx ry kk => ?_)
  have bs := bin_sound (k := k) (Q := Q) (E := E) (A := A) (o := o) H'.O rx ry
  cases o with
  | cat =>
    obtain ⟨x, a1, vs, rfl, hl, hr, kk⟩ := inLst H'.O kk rx
    obtain ⟨y, a2, us, rfl, hl', hr', k0, k1⟩ := inLst H'.O kk ry
    rw [← hr.length, ← hr'.length] at k0
    refine add_arrays H'.O.F H'.O.N hl hl' (fun h2 F2 N2 => ?_) k0
    have O2 := H'.O.newO (tk := tk) (mo := .lst (x ++ y)) H'.O.offT F2 N2 ⟨vs ++ us, _, .head _, Rds.lift ((stp_new (mo := .lst (x ++ y)) H'.O.offT).lift H'.O.sub) _ _ (Rds.append hr hr'), by rw [List.length_append]; exact k0⟩
    exact (PE.next H.O P st) _ (.mref h'.objs.size) h2 tk _ _ _ O2 (stp_new H'.O.offT) to_mref (k1 _ H'.O.freshM)
  | _ => exact bs kk (PE.next H.O P st)
theorem SE_cmp {o : Cop} {a b : ME} (ha : SE C Γ n a) (hb : SE C Γ n b) : SE C Γ n (.cmp o a b) := by
  intro S pe ok A A₀ fenv outer h₀ L env s m T X μ loc Q E k H v P
  obtain ⟨l, r, pos, rfl, hs, ok1, ok2⟩ := ok_cmp ok
  refine wpAny_Compare1 (SE.two ha hb ok1 ok2 H v fun va vb x y h' tk T' X' μ' H' st rx ry kk => ?_) (behind_of hs)
  obtain ⟨r, hr, kk⟩ := onSm_inv kk
  exact cmp_sound H'.O rx ry hr ((PE.next H.O P st).here0 H'.O to_bool kk)
theorem SB_cmp {o : Cop} {a b : ME} (ha : SE C Γ n a) (hb : SE C Γ n b) : SB C Γ n (.cmp o a b) := by
  intro S pe ok A A₀ fenv outer h₀ L env s m T X μ loc Q E k H v hB P
  obtain ⟨l, r, pos, rfl, hs, ok1, ok2⟩ := ok_cmp ok
  refine wpAny_isTrue_Compare1 (SE.two ha hb ok1 ok2 H v fun va vb x y h' tk T' X' μ' H' st rx ry kk => ?_) (behind_of hs)
  obtain ⟨r, hr, kk⟩ := onSm_inv kk
  exact cmp_sound H'.O rx ry hr (wpAny_truthy_bool (P _ _ _ _ _ _ H'.O st kk))
theorem SE_isIn {ng : Bool} {a b : ME} (ha : SE C Γ n a) (hb : SE C Γ n b) : SE C Γ n (.isIn ng a b) := by
  intro S pe ok A A₀ fenv outer h₀ L env s m T X μ loc Q E k H v P
  obtain ⟨l, r, pos, rfl, hs, ok1, ok2⟩ := ok_isIn ok
  refine wpAny_Compare1 (SE.two ha hb ok1 ok2 H v fun va vb x y h' tk T' X' μ' H' st rx ry kk => ?_) (behind_of hs)
  obtain ⟨r, hr, kk⟩ := onSm_inv kk
  exact in_sound H'.O rx ry hr ((PE.next H.O P st).here0 H'.O to_bool kk)
theorem SB_isIn {ng : Bool} {a b : ME} (ha : SE C Γ n a) (hb : SE C Γ n b) : SB C Γ n (.isIn ng a b) := by
  intro S pe ok A A₀ fenv outer h₀ L env s m T X μ loc Q E k H v hB P
  obtain ⟨l, r, pos, rfl, hs, ok1, ok2⟩ := ok_isIn ok
  refine wpAny_isTrue_Compare1 (SE.two ha hb ok1 ok2 H v fun va vb x y h' tk T' X' μ' H' st rx ry kk => ?_) (behind_of hs)
  obtain ⟨r, hr, kk⟩ := onSm_inv kk
  exact in_sound H'.O rx ry hr (wpAny_truthy_bool (P _ _ _ _ _ _ H'.O st kk))
theorem isN_sound {ng : Bool} {B : Heap} {T : Led} {X : List Addr} {v : Value} {x : D} {A : Around} {s : Shared} {k : Bool → Prop} {Q : Value → Shared → Prop} {E : Value → Shared → Prop} (r : Rd B T X v x)
    (h : match (generalizing := false) x with | .none => k (!ng) | .undef => False | _ => k ng) (hq : ∀ b, k b → Q (.bool b) s) :
    wpAny (model C.prog C.w) A (compareOp (if ng then .IsNot else .Is) v .none) Q E s := by
  have key : ∀ b : Bool, (v == .none) = b → (match (generalizing := false) x with | .none => k (!ng) | .undef => False | _ => k ng) = k (if b then !ng else ng) → wpAny (model C.prog C.w) A (compareOp (if ng then .IsNot else .Is) v .none) Q E s := by
    intro b hb e
    rw [e] at h
    cases ng with
    | false =>
      refine is_none ?_
      rw [hb]; have := hq _ h; cases b <;> exact this
    | true =>
      refine isNot_none ?_
      rw [hb]; have := hq _ h; cases b <;> exact this
  cases x with
  | undef => exact h.elim
  | none => cases r; exact key true rfl rfl
  | bool b => cases r; exact key false rfl rfl
  | int i => obtain ⟨t, rfl⟩ := r; exact key false rfl rfl
  | str i => obtain ⟨t, rfl⟩ := r; exact key false rfl rfl
  | list i => obtain ⟨a, _, _, _, rfl, _⟩ := r; exact key false rfl rfl
  | tup i => obtain ⟨a, _, _, _, rfl, _⟩ := r; exact key false rfl rfl
  | inst i f => obtain ⟨a, _, _, _, rfl, _⟩ := r; exact key false rfl rfl
  | mref a => cases r; exact key false rfl rfl
theorem SE_isN {ng : Bool} {a : ME} (ha : SE C Γ n a) : SE C Γ n (.isN ng a) := by
  intro S pe ok A A₀ fenv outer h₀ L env s m T X μ loc Q E k H v P
  obtain ⟨l, i, p, pos, rfl, ok1⟩ := ok_isN ok
  refine wpAny_Compare1 (ha S l ok1 A A₀ fenv outer h₀ L env s m T X μ loc _ E _ H v fun va x h' tk T' X' μ' O' st rx kk => wpAny_Constant_none ?_) (by cases ng <;> rfl)
  exact isN_sound (k := fun b => k (.bool b) μ') rx (by cases x <;> exact kk) fun b hb => (PE.next H.O P st).here0 O' to_bool hb
theorem SB_isN {ng : Bool} {a : ME} (ha : SE C Γ n a) : SB C Γ n (.isN ng a) := by
  intro S pe ok A A₀ fenv outer h₀ L env s m T X μ loc Q E k H v hB P
  obtain ⟨l, i, p, pos, rfl, ok1⟩ := ok_isN ok
  refine wpAny_isTrue_Compare1 (ha S l ok1 A A₀ fenv outer h₀ L env s m T X μ loc _ E _ H v fun va x h' tk T' X' μ' O' st rx kk => wpAny_Constant_none ?_) (by cases ng <;> rfl)
  exact isN_sound (k := fun b => k (.bool b) μ') rx (by cases x <;> exact kk) fun b hb => wpAny_truthy_bool (P _ _ _ _ _ _ O' st hb)
theorem SE_neg {a : ME} (ha : SE C Γ n a) : SE C Γ n (.neg a) := by
  intro S pe ok A A₀ fenv outer h₀ L env s m T X μ loc Q E k H v P
  obtain ⟨l, pos, rfl, ok1⟩ := ok_neg ok
  refine wpAny_UnaryOp (ha S l ok1 A A₀ fenv outer h₀ L env s m T X μ loc _ E _ H v fun va x h' tk T' X' μ' O' st rx kk => ?_)
  obtain ⟨i, t, rfl, kk⟩ := inInt kk rx
  exact PyProof.Rows.neg_int ((PE.next H.O P st).here O' _ to_int kk)
end
section
variable {M : Model} {prog : Program} {w : World} {A : Around} {E : Value → Shared → Prop} {s : Shared} {env : Env} {Q : Value → Shared → Prop}
theorem all_plain (ps : List PySem.Expr) (env : Env) : (ps.map fun e => ((false, eval e env) : Bool × Sem Value)).all (fun x => !x.1) = true := by
  induction ps with
  | nil => rfl
  | cons a r ih => simp only [List.map_cons, List.all_cons, ih]; rfl
theorem any_plain (ps : List PySem.Expr) (env : Env) : (ps.map fun e => ((false, eval e env) : Bool × Sem Value)).any (·.1) = false := by
  induction ps with
  | nil => rfl
  | cons a r ih => simp only [List.map_cons, List.any_cons, ih]; rfl
theorem Call_meth {o : PySem.Expr} {name : Str} {apos pos : Pos} {args : List PySem.Expr} {trees : List (Bool × Sem Value)} (hb : baseOk o = true) (ht : backTo pos (starEach args env) = trees) (hp : trees.all (fun x => !x.1) = true)
    (hn : args.length < 20) (hline : (apos.endLine == pos.line) = true)
    (h : wpAny (model prog w) A (eval o env) (fun ov s₁ => ∀ pl, wpAny (model prog w) A (getMethod ov name pl) (fun fv s₂ => wpAny (model prog w) A (callWith pos fv.1 fv.2 trees []) Q E s₂) E s₁) E s) :
    wpAny (model prog w) A (eval (.Call (.Attribute o name apos) args [] pos) env) Q E s := by
  rw [arm_eval_Call, base_of hb]
  refine wpAny_bind (wpAny_mono h (fun ov s₁ h₁ => ?_) fun _ _ e => e)
  refine wpAny_bind (wpAny_standAt ?_)
  have hform : methodCallForm (args.length + ([] : List Keyword).length) (backTo pos (starEach args env)) (backToKw pos (keywordEach [] env)) = true := by
    unfold methodCallForm
    rw [ht, hp]
    exact decide_eq_true (Nat.lt_of_lt_of_le hn (by decide : 20 ≤ 30))
  have hpos : methodCallPos true o env apos pos = pure pos := by unfold methodCallPos; simp [hline]
  unfold methodCall
  rw [hform]
  refine wpAny_bind (wpAny_holding ?_)
  unfold calleeOf
  simp only [if_true]
  refine wpAny_mono (h₁ _) (fun fv s₂ h₂ => ?_) fun _ _ e => e
  exact wpAny_bind (wpAny_of_eq hpos (by rw [ht]; exact h₂))
theorem callWith_list {K : Frag} {f : Value} {first : List Value} {pos : Pos} {ps : List PySem.Expr} (hk : keepIn K f = true)
    (h : wpAny M A (spliced (ps.map fun e => (false, eval e env))) (fun vs s₁ => K.In s₁.heap ∧ wpAny M A (call f (first ++ vs)) Q E s₁) E s) :
    wpAny M A (callWith pos f first (ps.map fun e => (false, eval e env)) []) Q E s := by
  refine callWith_of (by rw [any_plain]; rfl) (keeps_K hk) ?_
  cases ps with
  | nil =>
    unfold evalArgs
    show wpAny M A (spliced [] >>= _) _ E s
    refine wpAny_bind (wpAny_mono h (fun vs s₁ h₁ => wpAny_bind (wpAny_pure ?_)) fun _ _ x => x)
    refine wpAny_holding ?_
    exact wpAny_bind (wpAny_pure (wpAny_pure h₁))
  | cons e r => exact evalArgs_plain h
theorem callWith_bi {id : String} {first : List Value} {pos : Pos} {ps : List PySem.Expr} (hp : ps ≠ [])
    (h : wpAny M A (spliced (ps.map fun e => (false, eval e env))) (fun vs s₁ => wpAny M A (call (.builtin id) (first ++ vs)) Q E s₁) E s) :
    wpAny M A (callWith pos (.builtin id) first (ps.map fun e => (false, eval e env)) []) Q E s := by
  refine callWith_builtin (any_plain ps env) ?_
  cases ps with
  | nil => exact absurd rfl hp
  | cons e r => exact evalArgs_plain h
end
section
open PyProof.V PySem.Spec
theorem strs_carried : ∀ l : List (Str × Tok), CarriedAll (strValues l) ((l.map (·.1)).map PyData.str)
  | [] => .nil
  | (x, t) :: r => .cons (.str x t) (strs_carried r)
theorem str_canLayAll0 : ∀ ns : List Str, (∀ t ∈ ns, PyData.strOk t = true) → PyData.canLayAll0 (ns.map PyData.str) = true
  | [], _ => rfl
  | a :: r, h => by simp [PyData.canLayAll0, PyData.canLay0, str_canLayAll0 r fun t ht => h t (.tail _ ht), h a (.head _)]
theorem str_depthAll : ∀ ns : List Str, PyData.depthAll (ns.map PyData.str) = 0
  | [] => rfl
  | _ :: r => by simp [PyData.depthAll, PyData.depth, str_depthAll r]
theorem str_shaped (ns : List Str) (h : ∀ t ∈ ns, PyData.strOk t = true) : SeqAt.shaped (.list (ns.map PyData.str)) = true := by
  simp [SeqAt.shaped, PyData.canLay0, PyData.depth, str_canLayAll0 ns h, str_depthAll]
theorem same_nil_str (ns : List Str) : PySem.Spec.same (.list (ns.map PyData.str)) (.list (([] : List Str).map PyData.str)) = ns.isEmpty := by
  cases ns <;> simp [PySem.Spec.same, PySem.Spec.sameAll]
section
variable {C : Cx} {Γ : Cfg} {n : Nat}
theorem ne_nil_sound {A : Around} {h₀ : Heap} {L : Addr} {s : Shared} {m : Str → Option Value} {T : Led} {X : List Addr} {μ : Mem} {Q E : Value → Shared → Prop} {va : Value} {xs : List D} {a₂ : Addr}
    (O : Ok C h₀ L s m T X μ) (hu : A.units + 64 < cLine) (r : Rd C.B T X va (.list xs)) (hx : (∃ ns : List Int, xs = ns.map .int) ∨ (∃ ts : List Str, (∀ t ∈ ts, PyData.strOk t = true) ∧ xs = ts.map .str)) (h2 : s.heap.IsList a₂ ([] : List Value).toArray)
    (h : Q (.bool (!xs.isEmpty)) s) : wpAny (model C.prog C.w) A (compareOp .NotEq va (.ref a₂)) Q E s := by
  obtain ⟨l, vs, rfl, hl, hr⟩ := rd_list O r
  rcases hx with ⟨ns, rfl⟩ | ⟨ts, hts, rfl⟩
  · refine ke_ne_ints hl h2 (ints_of (vs := vs) hr) .nil hu ?_
    have e : decide (ns = []) = (ns.map D.int).isEmpty := by cases ns <;> simp
    rw [e]; exact h
  · obtain ⟨l', rfl, rfl⟩ := strs_of hr
    refine ne_dataH_same (reads_newData hl (strs_carried l')) (reads_newData (ds := ([] : List Str).map PyData.str) h2 .nil) (str_shaped _ hts) (str_shaped _ (by simp)) hu
      (SeqAt.noMix_of_shape (.list .str) rfl _ _ (list_map_has fun _ => rfl) (list_map_has fun _ => rfl)) ?_
    rw [same_nil_str]
    have e : ((l'.map (·.1)).map D.str).isEmpty = (l'.map (·.1)).isEmpty := by cases l' <;> simp
    rw [← e]; exact h
theorem SE_neE' {a : ME} (ha : SE C Γ n a) (S : Sc) {l : PySem.Expr} {p : Pos} (ok1 : okE Γ S a l = true) {A A₀ fenv outer h₀ L env s m T X μ loc} {E : Value → Shared → Prop} {k : KE} {R : Value → Shared → Prop}
    (H : St C n S A A₀ fenv outer h₀ L env s m T X μ loc) (v : vcE Γ (.neE a) loc μ k)
    (c : ∀ b h' tk T' X' μ', Ok C h₀ L { s with heap := h', toks := tk } m T' X' μ' → Stp T X (keys μ) T' X' (keys μ') → k (.bool b) μ' → R (.bool b) { s with heap := h', toks := tk }) :
    wpAny (model C.prog C.w) A (eval l env) (fun va s1 => wpAny (model C.prog C.w) A (eval (.List [] p) env) (fun vb s2 => wpAny (model C.prog C.w) A (compareOp .NotEq va vb) R E s2) E s1) E s := by
  refine ha S l ok1 A A₀ fenv outer h₀ L env s m T X μ loc _ E _ H v fun va x h' tk T' X' μ' O' st rx kk => ?_
  refine List_ (spliced_nil (newList_N (L := L) O'.F O'.N (fun h2 F2 N2 => ?_) (by show 0 ≤ sizeLine; exact Nat.zero_le _)))
  obtain ⟨xs, rfl, hx, hz, hk⟩ := onLst_inv kk
  have O2 := O'.more (tk := tk) F2 N2 fun _ h => .tail _ h
  have st2 : Stp T' X' (keys μ') ((h'.objs.size, { cls := .type "list", data := .seq ([] : List Value).toArray }) :: T') X' (keys μ') := .cons _
  exact ne_nil_sound O2 (Nat.lt_of_le_of_lt (Nat.add_le_add_left (by decide : 64 ≤ 200) _) (Nat.lt_of_le_of_lt (Nat.add_le_add_right (Nat.le_add_right _ _) _) H.F.hu)) (Rd.lift (st2.lift O'.sub) _ _ rx) hx ⟨_, (N2 _ (.head _)).1, rfl, _, rfl⟩ (c _ _ _ _ _ _ O2 (st.trans st2 H.O.sub) hk)
theorem SE_neE {a : ME} (ha : SE C Γ n a) : SE C Γ n (.neE a) := by
  intro S pe ok A A₀ fenv outer h₀ L env s m T X μ loc Q E k H v P
  obtain ⟨l, p, pos, rfl, ok1⟩ := ok_neE ok
  exact wpAny_Compare1 (SE_neE' ha S ok1 H v fun b h' tk T' X' μ' O' st hk => P _ _ _ _ _ _ _ O' st to_bool hk) rfl
theorem SB_neE {a : ME} (ha : SE C Γ n a) : SB C Γ n (.neE a) := by
  intro S pe ok A A₀ fenv outer h₀ L env s m T X μ loc Q E k H v hB P
  obtain ⟨l, p, pos, rfl, ok1⟩ := ok_neE ok
  exact wpAny_isTrue_Compare1 (SE_neE' ha S ok1 H v fun b h' tk T' X' μ' O' st hk => wpAny_truthy_bool (P _ _ _ _ _ _ O' st hk)) rfl
theorem SE_chain {o p : Cop} {a b c : ME} (ha : SE C Γ n a) (hb : SE C Γ n b) (hc : SE C Γ n c) : SE C Γ n (.chain o p a b c) := by
  intro S pe ok A A₀ fenv outer h₀ L env s m T X μ loc Q E k H v P
  obtain ⟨l, r, r', pos, rfl, hs, hs', ok1, ok2, ok3⟩ := ok_chain ok
  refine Compare_chain ?_ (by show lastMarks _ _ = false; simp only [lastMarks]; exact behind_of hs')
  refine wpAny_mono (SE.two (E := E) (R := fun va vb s2 => wpAny (model C.prog C.w) A (compareOp (copOf o) va vb) (fun c s₂ => wpAny (model C.prog C.w) A (truthy c) (fun t s₃ => if t then wpAny (model C.prog C.w) A (compareChain pos vb [copOf p] [eval r' env]) Q E s₃ else Q c s₃) E s₂) E s2)
    ha hb ok1 ok2 H v fun va vb x y h' tk T' X' μ' H' st rx ry kk => ?_) (fun va s₁ h₁ => chain_link h₁) fun _ _ e => e
  · obtain ⟨q, hr, kk⟩ := onSm_inv kk
    refine cmp_sound H'.O rx ry hr (wpAny_truthy_bool ?_)
    cases q with
    | false => exact (PE.next H.O P st).here0 H'.O to_bool (kk.1 rfl)
    | true =>
      refine chain_last ?_
      refine hc S r' ok3 A A₀ fenv outer h₀ L env _ m T' X' μ' loc _ E _ H' (kk.2 rfl) fun vc z h2 tk2 T2 X2 μ2 O2 st2 rz kz => ?_
      obtain ⟨r2, hr2, kz⟩ := onSm_inv kz
      exact cmp_sound O2 (Rd.lift (st2.lift H'.O.sub) _ _ ry) rz hr2 ((PE.next H.O P (st.trans st2 H.O.sub)).here0 O2 to_bool kz)
theorem SB_chain {o p : Cop} {a b c : ME} (ha : SE C Γ n a) (hb : SE C Γ n b) (hc : SE C Γ n c) : SB C Γ n (.chain o p a b c) := by
  intro S pe ok A A₀ fenv outer h₀ L env s m T X μ loc Q E k H v hB P
  obtain ⟨l, r, r', pos, rfl, hs, hs', ok1, ok2, ok3⟩ := ok_chain ok
  refine isTrue_chain ?_ (by show lastMarks _ _ = false; simp only [lastMarks]; exact behind_of hs')
  refine wpAny_mono (SE.two (E := E) (R := fun va vb s2 => wpAny (model C.prog C.w) A (compareOp (copOf o) va vb) (fun c s₂ => wpAny (model C.prog C.w) A (truthy c) (fun t s₃ => if t then wpAny (model C.prog C.w) A (testChain pos vb [copOf p] [eval r' env]) Q E s₃ else Q false s₃) E s₂) E s2)
    ha hb ok1 ok2 H v fun va vb x y h' tk T' X' μ' H' st rx ry kk => ?_) (fun va s₁ h₁ => test_link h₁) fun _ _ e => e
  · obtain ⟨q, hr, kk⟩ := onSm_inv kk
    refine cmp_sound H'.O rx ry hr (wpAny_truthy_bool ?_)
    cases q with
    | false => exact P _ _ _ _ _ _ H'.O st (kk.1 rfl)
    | true =>
      refine test_last ?_
      refine hc S r' ok3 A A₀ fenv outer h₀ L env _ m T' X' μ' loc _ E _ H' (kk.2 rfl) fun vc z h2 tk2 T2 X2 μ2 O2 st2 rz kz => ?_
      obtain ⟨r2, hr2, kz⟩ := onSm_inv kz
      exact cmp_sound O2 (Rd.lift (st2.lift H'.O.sub) _ _ ry) rz hr2 (wpAny_truthy_bool (P _ _ _ _ _ _ O2 (st.trans st2 H.O.sub) kz))
theorem SE_not {a : ME} (ha : SE C Γ n a) : SE C Γ n (.not a) := by
  intro S pe ok A A₀ fenv outer h₀ L env s m T X μ loc Q E k H v P
  obtain ⟨l, pos, rfl, ok1⟩ := ok_not ok
  refine wpAny_UnaryOp (ha S l ok1 A A₀ fenv outer h₀ L env s m T X μ loc _ E _ H v fun va x h' tk T' X' μ' O' st rx kk => ?_)
  obtain ⟨b, rfl, kk⟩ := inBl kk rx
  exact not_of (wpAny_truthy_bool ((PE.next H.O P st).here0 O' to_bool kk))
theorem SB_not {a : ME} (ha : SB C Γ n a) : SB C Γ n (.not a) := by
  intro S pe ok A A₀ fenv outer h₀ L env s m T X μ loc Q E k H v hB P
  obtain ⟨l, pos, rfl, ok1⟩ := ok_not ok
  refine isTrue_not (ha S l ok1 A A₀ fenv outer h₀ L env s m T X μ loc _ E _ H v (fun d μ h => ?_) fun b h' tk T' X' μ' O' st kk => P _ _ _ _ _ _ O' st kk)
  exact bl_of h
theorem SE_ite {c a b : ME} (hc : SB C Γ n c) (ha : SE C Γ n a) (hb : SE C Γ n b) : SE C Γ n (.ite c a b) := by
  intro S pe ok A A₀ fenv outer h₀ L env s m T X μ loc Q E k H v P
  obtain ⟨t, x, y, pos, rfl, ok1, ok2, ok3⟩ := ok_ite ok
  refine wpAny_IfExp (hc S t ok1 A A₀ fenv outer h₀ L env s m T X μ loc _ E _ H v (fun d μ h => ?_) fun b h' tk T' X' μ' O' st kk => ?_)
  · exact bl_of h
  · cases b with
    | true => exact ha S x ok2 A A₀ fenv outer h₀ L env _ m T' X' μ' loc _ E _ (H.next O' st) (kk.1 rfl) (PE.next H.O P st)
    | false => exact hb S y ok3 A A₀ fenv outer h₀ L env _ m T' X' μ' loc _ E _ (H.next O' st) (kk.2 rfl) (PE.next H.O P st)
theorem SB_ite {c a b : ME} (hc : SB C Γ n c) (ha : SB C Γ n a) (hb : SB C Γ n b) : SB C Γ n (.ite c a b) := by
  intro S pe ok A A₀ fenv outer h₀ L env s m T X μ loc Q E k H v hB P
  obtain ⟨t, x, y, pos, rfl, ok1, ok2, ok3⟩ := ok_ite ok
  refine isTrue_IfExp (hc S t ok1 A A₀ fenv outer h₀ L env s m T X μ loc _ E _ H v (fun d μ h => ?_) fun b h' tk T' X' μ' O' st kk => ?_)
  · exact bl_of h
  · cases b with
    | true => exact ha S x ok2 A A₀ fenv outer h₀ L env _ m T' X' μ' loc _ E _ (H.next O' st) (kk.1 rfl) hB (PT.next H.O P st)
    | false => exact hb S y ok3 A A₀ fenv outer h₀ L env _ m T' X' μ' loc _ E _ (H.next O' st) (kk.2 rfl) hB (PT.next H.O P st)
end
end
section
variable {C : Cx} {Γ : Cfg} {n : Nat}
theorem ands_go (S : Sc) (pos : Pos) {A A₀ fenv outer h₀ L env m loc Q E k} : ∀ (es : List ME), (∀ e ∈ es, SE C Γ n e) → ∀ vs, okEs Γ S es vs = true → vs ≠ [] → ∀ s T X μ, St C n S A A₀ fenv outer h₀ L env s m T X μ loc → vcAnd Γ es loc μ k → PE C h₀ L s m T X μ k Q →
    wpAny (model C.prog C.w) A (eval (.BoolOp .And vs pos) env) Q E s
  | [], _, vs, ok, hv, s, T, X, μ, H, v, P => by
    cases vs with
    | nil => exact absurd rfl hv
    | cons _ _ => cases ok
  | e :: es, he, vs, ok, hv, s, T, X, μ, H, v, P => by
    cases vs with
    | nil => exact absurd rfl hv
    | cons p ps =>
      have ok := okEs_cons ok
      cases es with
      | nil =>
        cases ps with
        | cons _ _ => cases ok.2
        | nil =>
          refine BoolOp_one (he e (.head _) S p ok.1 A A₀ fenv outer h₀ L env s m T X μ loc _ E _ H v fun va x h' tk T' X' μ' O' st rx kk => ?_)
          obtain ⟨b, rfl, kk⟩ := inBl kk rx
          cases b with
          | false => exact P _ _ _ _ _ _ _ O' st to_bool (kk.1 rfl)
          | true => have := kk.2 rfl; exact P _ _ _ _ _ _ _ O' st to_bool this
      | cons e2 es =>
        cases ps with
        | nil => cases ok.2
        | cons p2 ps =>
          refine BoolOp_and (he e (.head _) S p ok.1 A A₀ fenv outer h₀ L env s m T X μ loc _ E _ H v fun va x h' tk T' X' μ' O' st rx kk => ?_)
          obtain ⟨b, rfl, kk⟩ := inBl kk rx
          refine wpAny_truthy_bool ?_
          cases b with
          | false => exact P _ _ _ _ _ _ _ O' st to_bool (kk.1 rfl)
          | true => exact ands_go S pos (e2 :: es) (fun e h => he e (.tail _ h)) (p2 :: ps) ok.2 (List.cons_ne_nil _ _) _ T' X' μ' (H.next O' st) (kk.2 rfl) (PE.next H.O P st)
theorem SE_ands {es : List ME} (he : ∀ e ∈ es, SE C Γ n e) : SE C Γ n (.ands es) := by
  intro S pe ok A A₀ fenv outer h₀ L env s m T X μ loc Q E k H v P
  obtain ⟨vs, pos, rfl, ok1, hv⟩ := ok_ands ok
  exact ands_go S pos es he vs ok1 hv s T X μ H v P
theorem ors_go (S : Sc) (pos : Pos) {A A₀ fenv outer h₀ L env m loc Q E k} : ∀ (es : List ME), (∀ e ∈ es, SE C Γ n e) → ∀ vs, okEs Γ S es vs = true → vs ≠ [] → ∀ s T X μ, St C n S A A₀ fenv outer h₀ L env s m T X μ loc → vcOr Γ es loc μ k → PE C h₀ L s m T X μ k Q →
    wpAny (model C.prog C.w) A (eval (.BoolOp .Or vs pos) env) Q E s
  | [], _, vs, ok, hv, s, T, X, μ, H, v, P => by
    cases vs with
    | nil => exact absurd rfl hv
    | cons _ _ => cases ok
  | e :: es, he, vs, ok, hv, s, T, X, μ, H, v, P => by
    cases vs with
    | nil => exact absurd rfl hv
    | cons p ps =>
      have ok := okEs_cons ok
      cases es with
      | nil =>
        cases ps with
        | cons _ _ => cases ok.2
        | nil =>
          refine BoolOp_one (he e (.head _) S p ok.1 A A₀ fenv outer h₀ L env s m T X μ loc _ E _ H v fun va x h' tk T' X' μ' O' st rx kk => ?_)
          obtain ⟨b, rfl, kk⟩ := inBl kk rx
          cases b with
          | true => exact P _ _ _ _ _ _ _ O' st to_bool (kk.1 rfl)
          | false => have := kk.2 rfl; exact P _ _ _ _ _ _ _ O' st to_bool this
      | cons e2 es =>
        cases ps with
        | nil => cases ok.2
        | cons p2 ps =>
          refine BoolOp_or (he e (.head _) S p ok.1 A A₀ fenv outer h₀ L env s m T X μ loc _ E _ H v fun va x h' tk T' X' μ' O' st rx kk => ?_)
          obtain ⟨b, rfl, kk⟩ := inBl kk rx
          refine wpAny_truthy_bool ?_
          cases b with
          | true => exact P _ _ _ _ _ _ _ O' st to_bool (kk.1 rfl)
          | false => exact ors_go S pos (e2 :: es) (fun e h => he e (.tail _ h)) (p2 :: ps) ok.2 (List.cons_ne_nil _ _) _ T' X' μ' (H.next O' st) (kk.2 rfl) (PE.next H.O P st)
theorem SE_ors {es : List ME} (he : ∀ e ∈ es, SE C Γ n e) : SE C Γ n (.ors es) := by
  intro S pe ok A A₀ fenv outer h₀ L env s m T X μ loc Q E k H v P
  obtain ⟨vs, pos, rfl, ok1, hv⟩ := ok_ors ok
  exact ors_go S pos es he vs ok1 hv s T X μ H v P
theorem andsB_go (S : Sc) (pos : Pos) {A A₀ fenv outer h₀ L env m loc} {Q : Bool → Shared → Prop} {E k} {whole : Sem Value} (hB : BoolK k) : ∀ (es : List ME), (∀ e ∈ es, SB C Γ n e) → ∀ vs, okEs Γ S es vs = true → ∀ s T X μ, St C n S A A₀ fenv outer h₀ L env s m T X μ loc → vcAnd Γ es loc μ k → PT C h₀ L s m T X μ k Q →
    wpAny (model C.prog C.w) A (isTrue (.BoolOp .And vs pos) env whole) Q E s
  | [], _, vs, ok, s, T, X, μ, H, v, P => by
    cases vs with
    | nil => exact isTrue_and_nil (P true s.heap s.toks T X μ (H.O.same _) (.refl ..) v)
    | cons _ _ => cases ok
  | e :: es, he, vs, ok, s, T, X, μ, H, v, P => by
    cases vs with
    | nil => cases ok
    | cons p ps =>
      have ok := okEs_cons ok
      refine isTrue_and (he e (.head _) S p ok.1 A A₀ fenv outer h₀ L env s m T X μ loc _ E _ H v (fun d μ h => ?_) fun b h' tk T' X' μ' O' st kk => ?_)
      · exact bl_of h
      · cases b with
        | false => exact P _ _ _ _ _ _ O' st (kk.1 rfl)
        | true => exact andsB_go S pos hB es (fun e h => he e (.tail _ h)) ps ok.2 _ T' X' μ' (H.next O' st) (kk.2 rfl) (PT.next H.O P st)
theorem SB_ands {es : List ME} (he : ∀ e ∈ es, SB C Γ n e) : SB C Γ n (.ands es) := by
  intro S pe ok A A₀ fenv outer h₀ L env s m T X μ loc Q E k H v hB P
  obtain ⟨vs, pos, rfl, ok1, hv⟩ := ok_ands ok
  exact andsB_go S pos hB es he vs ok1 s T X μ H v P
theorem orsB_go (S : Sc) (pos : Pos) {A A₀ fenv outer h₀ L env m loc} {Q : Bool → Shared → Prop} {E k} {whole : Sem Value} (hB : BoolK k) : ∀ (es : List ME), (∀ e ∈ es, SB C Γ n e) → ∀ vs, okEs Γ S es vs = true → ∀ s T X μ, St C n S A A₀ fenv outer h₀ L env s m T X μ loc → vcOr Γ es loc μ k → PT C h₀ L s m T X μ k Q →
    wpAny (model C.prog C.w) A (isTrue (.BoolOp .Or vs pos) env whole) Q E s
  | [], _, vs, ok, s, T, X, μ, H, v, P => by
    cases vs with
    | nil => exact isTrue_or_nil (P false s.heap s.toks T X μ (H.O.same _) (.refl ..) v)
    | cons _ _ => cases ok
  | e :: es, he, vs, ok, s, T, X, μ, H, v, P => by
    cases vs with
    | nil => cases ok
    | cons p ps =>
      have ok := okEs_cons ok
      refine isTrue_or (he e (.head _) S p ok.1 A A₀ fenv outer h₀ L env s m T X μ loc _ E _ H v (fun d μ h => ?_) fun b h' tk T' X' μ' O' st kk => ?_)
      · exact bl_of h
      · cases b with
        | true => exact P _ _ _ _ _ _ O' st (kk.1 rfl)
        | false => exact orsB_go S pos hB es (fun e h => he e (.tail _ h)) ps ok.2 _ T' X' μ' (H.next O' st) (kk.2 rfl) (PT.next H.O P st)
theorem SB_ors {es : List ME} (he : ∀ e ∈ es, SB C Γ n e) : SB C Γ n (.ors es) := by
  intro S pe ok A A₀ fenv outer h₀ L env s m T X μ loc Q E k H v hB P
  obtain ⟨vs, pos, rfl, ok1, hv⟩ := ok_ors ok
  exact orsB_go S pos hB es he vs ok1 s T X μ H v P
theorem SB_plain {e : ME} (hp : ∀ S pe, okE Γ S e pe = true → ∀ env whole, isTrue pe env whole = (do let v ← whole; standAt pe.pos; holding [v] (truthy v))) (ha : SE C Γ n e) : SB C Γ n e := by
  intro S pe ok A A₀ fenv outer h₀ L env s m T X μ loc Q E k H v hB P
  refine isTrue_plain (ha S pe ok A A₀ fenv outer h₀ L env s m T X μ loc _ E _ H v fun va x h' tk T' X' μ' O' st rx kk => ?_) (hp S pe ok _ _)
  obtain ⟨b, rfl⟩ := hB _ _ kk
  obtain rfl := rd_bool rx
  exact wpAny_truthy_bool (P _ _ _ _ _ _ O' st kk)
theorem SE_list {es : List ME} (he : SL C Γ n es) : SE C Γ n (.list es) := by
  intro S pe ok A A₀ fenv outer h₀ L env s m T X μ loc Q E k H v P
  obtain ⟨args, pos, rfl, hln, ok1⟩ := ok_list ok
  refine List_ ?_
  rw [starEach_of Γ S ok1, back_of]
  refine he S args ok1 A A₀ fenv outer h₀ L env s m T X μ loc _ E _ H v fun vs ds h' tk T' X' μ' hl O' st rs kk => ?_
  refine newList_N O'.F O'.N (fun h2 F2 N2 => ?_) (by rw [hl, sizeLine_eq]; exact Nat.le_trans hln (by decide))
  exact (PE.next H.O P st).made (tk := tk) O' F2 N2 (to_list O'.fresh (Rds.lift (lift_cons O' _) _ _ rs)) kk
theorem SE_tup {es : List ME} (he : SL C Γ n es) : SE C Γ n (.tup es) := by
  intro S pe ok A A₀ fenv outer h₀ L env s m T X μ loc Q E k H v P
  obtain ⟨args, c, pos, rfl, hln, ok1⟩ := ok_tup ok
  refine Tuple_ ?_
  rw [starEach_of Γ S ok1, back_of]
  refine he S args ok1 A A₀ fenv outer h₀ L env s m T X μ loc _ E _ H v fun vs ds h' tk T' X' μ' hl O' st rs kk => ?_
  refine newTuple_N O'.F O'.N (fun h2 F2 N2 => ?_) (by rw [hl, sizeLine_eq]; exact Nat.le_trans hln (by decide))
  exact (PE.next H.O P st).made (tk := tk) O' F2 N2 (to_tup O'.fresh (Rds.lift (lift_cons O' _) _ _ rs)) kk
theorem SE_idx {a i : ME} (ha : SE C Γ n a) (hi : SE C Γ n i) : SE C Γ n (.idx a i) := by
  intro S pe ok A A₀ fenv outer h₀ L env s m T X μ loc Q E k H v P
  obtain ⟨v₀, s₀, pos, rfl, hs, ok1, ok2⟩ := ok_idx ok
  refine Subscript_ (SE.two ha hi ok1 ok2 H v fun va vb x y h' tk T' X' μ' H' st rx ry kk => ?_)
  exact idx_sound H'.O rx ry (subscripted_of hs) kk (PE.next H.O P st)
theorem part_sound {lo : List ME} (hlo : ∀ e ∈ lo, SE C Γ n e) {S : Sc} {l : Option PySem.Expr} (ok : okO Γ S lo l = true) {A A₀ fenv outer h₀ L env s m T X μ loc} {E : Value → Shared → Prop} {k : List D → Mem → Prop} {R : Value → Shared → Prop}
    (H : St C n S A A₀ fenv outer h₀ L env s m T X μ loc) (v : vcEs Γ lo loc μ k)
    (c : ∀ v ds h' tk T' X' μ', Ok C h₀ L { s with heap := h', toks := tk } m T' X' μ' → Stp T X (keys μ) T' X' (keys μ') → (ds = [] ∧ v = .none ∨ ∃ d, ds = [d] ∧ Rd C.B T' X' v d) → k ds μ' → R v { s with heap := h', toks := tk }) :
    wpAny (model C.prog C.w) A (evalPart l env) R E s := by
  cases lo with
  | nil =>
    cases l with
    | some _ => cases ok
    | none =>
      exact wpAny_pure (c .none [] s.heap s.toks T X μ (H.O.same _) (.refl ..) (.inl ⟨rfl, rfl⟩) v)
  | cons e r =>
    cases l with
    | none => cases r <;> cases ok
    | some p =>
      cases r with
      | cons _ _ => cases ok
      | nil =>
        refine hlo e (.head _) S p ok A A₀ fenv outer h₀ L env s m T X μ loc _ E _ H v fun va x h' tk T' X' μ' O' st rx kk => ?_
        exact c va [x] h' tk T' X' μ' O' st (.inr ⟨x, rfl, rx⟩) kk
theorem part_of {T : Led} {X : List Addr} {ds : List D} {v : Value} {k : Option Int → Prop} (h : ds = [] ∧ v = .none ∨ ∃ d, ds = [d] ∧ Rd C.B T X v d) (e : onPart ds k) : ∃ o, IsPart v o ∧ k o := by
  rcases h with ⟨rfl, rfl⟩ | ⟨d, rfl, r⟩
  · exact ⟨_, .none, e⟩
  · obtain ⟨i, t, rfl, h⟩ := inInt e r
    exact ⟨_, .int i t, h⟩
theorem SE_slc {a : ME} {lo hi : List ME} (ha : SE C Γ n a) (hlo : ∀ e ∈ lo, SE C Γ n e) (hhi : ∀ e ∈ hi, SE C Γ n e) : SE C Γ n (.slc a lo hi) := by
  intro S pe ok A A₀ fenv outer h₀ L env s m T X μ loc Q E k H v P
  obtain ⟨v₀, l, h, p, pos, rfl, ok1, ok2, ok3⟩ := ok_slc ok
  refine Subscript_ (ha S v₀ ok1 A A₀ fenv outer h₀ L env s m T X μ loc _ E _ H v fun va x h1 tk1 T1 X1 μ1 O1 st1 rx k1 => ?_)
  refine wpAny_Slice (part_sound hlo ok2 (H.next O1 st1) k1 fun vl ds h2 tk2 T2 X2 μ2 O2 st2 r2 k2 => ?_)
  refine part_sound hhi ok3 (H.next O2 (st1.trans st2 H.O.sub)) k2 fun vh es h3 tk3 T3 X3 μ3 O3 st3 r3 k3 => ?_
  refine wpAny_pure ?_
  obtain ⟨lo', e1, k3⟩ := part_of r2 k3
  obtain ⟨hi', e2, kk⟩ := part_of r3 k3
  have st23 := st2.trans st3 O1.sub
  refine slc_sound (el := default) (eu := default) O3 (Rd.lift (st23.lift O1.sub) _ _ rx) e1 e2 kk (PE.next H.O P (st1.trans st23 H.O.sub))
theorem SE_rev {a : ME} (ha : SE C Γ n a) : SE C Γ n (.rev a) := by
  intro S pe ok A A₀ fenv outer h₀ L env s m T X μ loc Q E k H v P
  obtain ⟨v₀, i, p1, p2, p3, pos, rfl, ok1⟩ := ok_rev ok
  refine Subscript_ (ha S v₀ ok1 A A₀ fenv outer h₀ L env s m T X μ loc _ E _ H v fun va x h1 tk1 T1 X1 μ1 O1 st1 rx k1 => ?_)
  refine wpAny_Slice (wpAny_pure (wpAny_pure (wpAny_UnaryOp (wpAny_Constant_int (PyProof.Rows.neg_int ?_)))))
  have O2 := O1.same (tk1 + 1 + 1)
  cases x with
  | list xs => exact rev_sound O2 (.inl ⟨rfl, k1.1⟩) rx k1.2 (PE.next H.O P st1)
  | mref b =>
    obtain ⟨xs, hM, k1⟩ := look_lst (k := fun xs => k (.list xs.reverse) μ1) k1
    exact rev_sound O2 (.inr ⟨b, rfl, hM⟩) rx k1 (PE.next H.O P st1)
  | _ => exact k1.elim
theorem foldl_one (v : Value) : ∀ (k : Nat) (acc : Array Value), (List.replicate k #[v]).foldl (fun x1 x2 => x1 ++ x2) acc = acc ++ (List.replicate k v).toArray
  | 0, acc => by simp
  | k + 1, acc => by
    rw [List.replicate_succ, List.foldl_cons, foldl_one v k, List.replicate_succ]
    apply Array.ext'
    simp
theorem Rds.rep {B : Heap} {T : Led} {X : List Addr} {v : Value} {d : D} (r : Rd B T X v d) : ∀ k : Nat, Rds B T X (List.replicate k v) (List.replicate k d)
  | 0 => .nil
  | k + 1 => .cons r (Rds.rep r k)
theorem SE_rep {a b : ME} (ha : SE C Γ n a) (hb : SE C Γ n b) : SE C Γ n (.rep a b) := by
  intro S pe ok A A₀ fenv outer h₀ L env s m T X μ loc Q E k H v P
  obtain ⟨l, p, r, pos, rfl, ok0, ok1, ok2⟩ := ok_rep ok
  refine wpAny_BinOp (List_ ?_)
  have e1 : starEach [l] env = [l].map fun e => (false, eval e env) := starEach_cons ok0 rfl
  rw [e1, back_of]
  show wpAny (model C.prog C.w) A (spliced [(false, eval l env)]) _ E s
  refine spliced_cons (ha S l ok1 A A₀ fenv outer h₀ L env s m T X μ loc _ E _ H v fun va x h1 tk1 T1 X1 μ1 O1 st1 rx k1 => spliced_nil ?_)
  refine newList_N O1.F O1.N (fun h2 F2 N2 => ?_) (by show 1 ≤ sizeLine; rw [sizeLine_eq]; decide)
  have O2 := O1.more (tk := tk1) F2 N2 fun _ h => .tail _ h
  have st2 : Stp T1 X1 (keys μ1) ((h1.objs.size, { cls := .type "list", data := .seq [va].toArray }) :: T1) X1 (keys μ1) := .cons _
  have st12 := st1.trans st2 H.O.sub
  have hx : h1.objs.size ∉ X1 := O1.fresh
  have hasL : Has C.B ((h1.objs.size, { cls := .type "list", data := .seq [va].toArray }) :: T1) X1 h1.objs.size { cls := .type "list", data := .seq [va].toArray } := .inr ⟨.head _, hx⟩
  refine hb S r ok2 A A₀ fenv outer h₀ L env _ m _ X1 μ1 loc _ E _ (H.next O2 st12) k1 fun vb y h3 tk3 T3 X3 μ3 O3 st3 ry k3 => ?_
  obtain ⟨i, t, rfl, hi0, hi1, hk⟩ := inInt k3 ry
  have hg := O3.has (hasL.step st3 O2.sub)
  refine mul_list O3.F O3.N hg (by (clear hi1; lia)) (by (clear hi0; lia)) ?_ fun h4 F4 N4 => ?_
  · show [va].toArray.size * i.toNat ≤ 2 ^ 24
    simp; (clear hi0; lia)
  · have e : (List.foldl (fun x1 x2 => x1 ++ x2) #[] (List.replicate (if [va].toArray.isEmpty = true then 0 else i.toNat) [va].toArray)) = (List.replicate i.toNat va).toArray := by
      have := foldl_one va i.toNat #[]
      simpa using this
    rw [e] at N4
    refine (PE.next H.O P (st12.trans st3 H.O.sub)).made (tk := tk3) O3 F4 N4 (to_list O3.fresh ?_) hk
    exact Rds.rep (Rd.lift (lift_cons O3 _) _ _ (Rd.lift ((st2.trans st3 O1.sub).lift O1.sub) _ _ rx)) _
end
noncomputable def CallOk (C : Cx) (n : Nat) (f : Addr) (ds : List D) (μ : Mem) (k : KE) : Prop :=
  ∀ A A₀ fenv outer h₀ L s m T X vs Q E, Fm C n A A₀ fenv outer h₀ L → Ok C h₀ L s m T X μ → Rds C.B T X vs ds → PE C h₀ L s m T X μ k Q → wpAny (model C.prog C.w) A (call (.ref f) vs) Q E s
structure Good (C : Cx) (Γ : Cfg) (n : Nat) : Prop where
  gl : ∀ (j : Nat) p, Γ.gl[j]? = some p → ∃ v, C.mg p.1 = some v ∧ Rd C.B [] [] v p.2
  fn : ∀ (j : Nat) p, Γ.fn[j]? = some p → C.mg p.1 = some (.ref p.2) ∧ keepIn C.K (.ref p.2) = true ∧ ∀ ds μ k, Γ.G j ds μ k → CallOk C n p.2 ds μ k
  mt : ∀ (j : Nat) p, Γ.mt[j]? = some p → plainGet C.K p.cls p.name = true ∧ findIn C.K (.ref p.cls) p.name = some (some (.ref p.fn)) ∧ isFn C.K (.ref p.fn) = true ∧ keepIn C.K (.ref p.fn) = true ∧ p.name ∉ p.names ∧
    ∀ d ds μ k, Γ.GM j (d :: ds) μ k → CallOk C n p.fn (d :: ds) μ k
  at_ : ∀ (j : Nat) p, Γ.at_[j]? = some p → plainGet C.K p.cls p.name = true ∧ hasDictIn C.K p.cls = true ∧ (∃ a, findIn C.K (.ref p.cls) p.name = some a ∧ noGet C.K a = true) ∧ p.names[p.i]? = some p.name ∧ p.name ∉ p.names.take p.i
  bi : ∀ b : Bi, C.mg (Str.ofString (biName b)) = none ∧ C.mb (Str.ofString (biName b)) = some (.builtin (biName b))
  rg : C.mg (Str.ofString "range") = none ∧ C.mb (Str.ofString "range") = some (.type "range")
theorem Rd.base {B : Heap} {T : Led} {X : List Addr} {v : Value} {d : D} (r : Rd B [] [] v d) : Rd B T X v d :=
  Rd.lift ⟨fun a o h => h.elim .inl fun h => absurd h.1 List.not_mem_nil⟩ _ _ r
theorem handed_of {B : Heap} {T : Led} {X : List Addr} {v : Value} {d : D} (r : Rd B T X v d) : handedIn v = true := by
  cases d with
  | undef => exact r.elim
  | none => cases r; rfl
  | bool b => cases r; rfl
  | int i => obtain ⟨t, rfl⟩ := r; rfl
  | str i => obtain ⟨t, rfl⟩ := r; rfl
  | list i => obtain ⟨a, _, _, _, rfl, _⟩ := r; rfl
  | tup i => obtain ⟨a, _, _, _, rfl, _⟩ := r; rfl
  | inst i f => obtain ⟨a, _, _, _, rfl, _⟩ := r; rfl
  | mref a => cases r; rfl
theorem isStr_self (x : Str) (t : Tok) : (Value.str x t).isStr x = true := by simp [Value.isStr]
theorem isStr_ne {x y : Str} {t : Tok} (h : y ≠ x) : (Value.str y t).isStr x = false := by simp [Value.isStr, h]
theorem getL_skip {name x : Str} (h : x ≠ name) (hh : Int) (t : Tok) (v : Value) (r : List DictEntry) : getL name (⟨hh, .str x t, v⟩ :: r) = getL name r := by
  unfold getL
  rw [List.find?_cons, isStr_ne h]
  rfl
theorem getL_at {B : Heap} {T : Led} {X : List Addr} {name : Str} : ∀ {fs : List (Str × D)} {es : List DictEntry}, RdF B T X es fs → ∀ (i : Nat) d, (fs.map (·.1))[i]? = some name → name ∉ (fs.map (·.1)).take i → (fs.map (·.2))[i]? = some d →
    ∃ v, getL name es = some (some v) ∧ Rd B T X v d
  | [], es, h, i, d, h1, _, _ => by simp at h1
  | (x, d') :: fs, es, h, i, d, h1, h2, h3 => by
    obtain ⟨hh, t, v, r, rfl, a, b⟩ := h
    cases i with
    | zero =>
      simp only [List.map_cons, List.getElem?_cons_zero, Option.some.injEq] at h1 h3
      subst h1; subst h3
      refine ⟨v, ?_, a⟩
      unfold getL
      rw [List.find?_cons, isStr_self]
    | succ i =>
      simp only [List.map_cons, List.getElem?_cons_succ, List.take_succ_cons, List.mem_cons, not_or] at h1 h2 h3
      obtain ⟨w, hw, rw'⟩ := getL_at b i d h1 h2.2 h3
      exact ⟨w, (getL_skip (fun e => h2.1 e.symm) hh t v r).trans hw, rw'⟩
theorem getL_none {B : Heap} {T : Led} {X : List Addr} {name : Str} : ∀ {fs : List (Str × D)} {es : List DictEntry}, RdF B T X es fs → name ∉ fs.map (·.1) → getL name es = some none
  | [], es, h, _ => by cases h; rfl
  | (x, d') :: fs, es, h, h2 => by
    obtain ⟨hh, t, v, r, rfl, a, b⟩ := h
    simp only [List.map_cons, List.mem_cons, not_or] at h2
    exact (getL_skip (fun e => h2.1 e.symm) hh t v r).trans (getL_none b h2.2)
section
variable {C : Cx} {Γ : Cfg} {n : Nat}
theorem rd_inst {h₀ : Heap} {L : Addr} {s : Shared} {m : Str → Option Value} {T : Led} {X : List Addr} {μ : Mem} {v : Value} {c : Addr} {fs : List (Str × D)} (O : Ok C h₀ L s m T X μ) (h : Rd C.B T X v (.inst c fs)) :
    ∃ a d es k, v = .ref a ∧ W.InstAt s.heap a (instObj c d) c (some (dictOf es k)) ∧ RdF C.B T X es fs := by
  obtain ⟨a, d, o, es, e, h1, h2, ⟨k, rfl⟩, r⟩ := h
  exact ⟨a, d, es, k, e, ⟨O.has h1, rfl, rfl, O.has h2⟩, r⟩
theorem SE_gl (G : Good C Γ n) {j : Nat} : SE C Γ n (.gl j) := by
  intro S pe ok A A₀ fenv outer h₀ L env s m T X μ loc Q E k H v P
  obtain ⟨x, pos, p, rfl, hp, rfl, hg⟩ := ok_gl ok
  obtain ⟨q, hq, v⟩ := onSm_inv v
  rw [hp] at hq
  cases hq
  obtain ⟨w, hw, r⟩ := G.gl j p hp
  exact H.glob hg hw (P.here0 H.O r.base v)
theorem SE_bi (G : Good C Γ n) {b : Bi} {es : List ME} (he : SL C Γ n es) : SE C Γ n (.bi b es) := by
  intro S pe ok A A₀ fenv outer h₀ L env s m T X μ loc Q E k H v P
  obtain ⟨f, p0, args, pos, rfl, rfl, hg, ok1, hne⟩ := ok_bi ok
  refine Call_Name rfl (H.builtin hg (G.bi b).1 (G.bi b).2 ?_)
  rw [starEach_of Γ S ok1, back_of]
  refine callWith_bi hne (he S args ok1 A A₀ fenv outer h₀ L env s m T X μ loc _ E _ H v fun vs ds h' tk T' X' μ' hl O' st rs kk => ?_)
  exact bi_sound H.F.hh O' rs kk (PE.next H.O P st)
theorem SE_call (G : Good C Γ n) {j : Nat} {es : List ME} (he : SL C Γ n es) : SE C Γ n (.call j es) := by
  intro S pe ok A A₀ fenv outer h₀ L env s m T X μ loc Q E k H v P
  obtain ⟨f, p0, args, pos, p, rfl, hp, rfl, hg, ok1⟩ := ok_call ok
  obtain ⟨h1, h2, h3⟩ := G.fn j p hp
  refine Call_Name rfl (H.glob hg h1 ?_)
  rw [starEach_of Γ S ok1, back_of]
  refine callWith_list h2 (he S args ok1 A A₀ fenv outer h₀ L env s m T X μ loc _ E _ H v fun vs ds h' tk T' X' μ' hl O' st rs kk => ?_)
  exact ⟨(H.next O' st).wd.k, h3 ds μ' k kk A A₀ fenv outer h₀ L _ m T' X' vs Q E H.F O' rs (PE.next H.O P st)⟩
theorem SE_meth {mk : Mk} {o : ME} {es : List ME} (ho : SE C Γ n o) (he : SL C Γ n es) : SE C Γ n (.meth mk o es) := by
  intro S pe ok A A₀ fenv outer h₀ L env s m T X μ loc Q E k H v P
  obtain ⟨oe, name, apos, args, pos, rfl, rfl, hb, hl, hn, ok1, ok2, hne⟩ := ok_meth ok
  refine Call_meth hb rfl (by rw [starEach_of Γ S ok2, back_of]; exact all_plain args env) hn hl ?_
  refine ho S oe ok1 A A₀ fenv outer h₀ L env s m T X μ loc _ E _ H v fun va x h1 tk1 T1 X1 μ1 O1 st1 rx k1 => ?_
  intro pl
  refine recv_sound O1 rx k1.1 ?_
  rw [starEach_of Γ S ok2, back_of]
  refine callWith_bi hne (he S args ok2 A A₀ fenv outer h₀ L env _ m T1 X1 μ1 loc _ E _ (H.next O1 st1) k1.2 fun vs ds h' tk T' X' μ' hl O' st rs kk => ?_)
  exact mk_sound H.F.wd.sm O' (Rd.lift (st.lift O1.sub) _ _ rx) rs kk (PE.next H.O P (st1.trans st H.O.sub))
theorem SE_mcall (G : Good C Γ n) {j : Nat} {o : ME} {es : List ME} (ho : SE C Γ n o) (he : SL C Γ n es) : SE C Γ n (.mcall j o es) := by
  intro S pe ok A A₀ fenv outer h₀ L env s m T X μ loc Q E k H v P
  obtain ⟨oe, name, apos, args, pos, p, rfl, hp, rfl, hb, hl, hn, ok1, ok2⟩ := ok_mcall ok
  obtain ⟨g1, g2, g3, g4, g5, g6⟩ := G.mt j p hp
  refine Call_meth hb rfl (by rw [starEach_of Γ S ok2, back_of]; exact all_plain args env) hn hl ?_
  refine ho S oe ok1 A A₀ fenv outer h₀ L env s m T X μ loc _ E _ H v fun va x h1 tk1 T1 X1 μ1 O1 st1 rx k1 => ?_
  intro pl
  obtain ⟨k0, k1⟩ := k1
  rw [hp] at k0
  cases x with
  | inst c fs =>
    obtain ⟨rfl, hf⟩ := k0
    obtain ⟨a, d, es', k', rfl, hI, hr⟩ := rd_inst O1 rx
    refine method_inst O1.F H.F.wd.k hI g1 g2 g3 (getL_none hr (by rw [hf]; exact g5)) ?_
    rw [starEach_of Γ S ok2, back_of]
    refine callWith_list g4 (he S args ok2 A A₀ fenv outer h₀ L env _ m T1 X1 μ1 loc _ E _ (H.next O1 st1) k1 fun vs ds h' tk T' X' μ' hl O' st rs kk => ?_)
    refine ⟨(H.next O' (st1.trans st H.O.sub)).wd.k, g6 _ ds μ' k kk A A₀ fenv outer h₀ L _ m T' X' _ Q E H.F O' (.cons (Rd.lift (st.lift O1.sub) _ _ rx) rs) (PE.next H.O P (st1.trans st H.O.sub))⟩
  | _ => exact k0.elim
theorem SE_attr (G : Good C Γ n) {j : Nat} {o : ME} (ho : SE C Γ n o) : SE C Γ n (.attr j o) := by
  intro S pe ok A A₀ fenv outer h₀ L env s m T X μ loc Q E k H v P
  obtain ⟨oe, name, apos, p, rfl, hp, rfl, hb, ok1⟩ := ok_attr ok
  obtain ⟨g1, g2, ⟨a, g3, g4⟩, g5, g6⟩ := G.at_ j p hp
  refine Attribute_any_ (ho S oe ok1 A A₀ fenv outer h₀ L env s m T X μ loc _ E _ H v fun va x h1 tk1 T1 X1 μ1 O1 st1 rx k1 => ?_) (by
    rw [arm_eval_Attribute, base_of hb])
  rw [hp] at k1
  cases x with
  | inst c fs =>
    obtain ⟨rfl, hf, w, hw, hk⟩ := k1
    obtain ⟨a', d, es', k', rfl, hI, hr⟩ := rd_inst O1 rx
    obtain ⟨u, hu, ru⟩ := getL_at hr p.i w (by rw [hf]; exact g5) (by rw [hf]; exact g6) hw
    exact get_own O1.F H.F.wd.k hI g1 g2 g3 g4 hu (handed_of ru) ((PE.next H.O P st1).here O1 _ ru hk)
  | _ => exact k1.elim
end
structure Itr (C : Cx) (A : Around) (I : Addr) (n : Nat) (P : Nat → Value → Prop) (St : Nat → Heap → Prop) (Kk : Led) : Prop where
  W : ∃ fp, Walks C.prog C.w A I fp [I] n P St
  io : ∀ i h, St i h → ∃ o, h.get? I = some o
  go : ∀ i h o, St i h → h.get? I = some o → ∃ n vs, o.cls = .type n ∧ o.data = .fields vs ∧ (["enumerate", "zip", "dict_itemiterator", "dict_reverseitemiterator", "odict_iterator", "itertools.zip_longest", "itertools.pairwise"].contains n) = false
  re : ∀ i h h' o, St i h → h.get? I = some o → h'.get? I = some o → (∀ p ∈ Kk, h'.get? p.1 = some p.2) → St i h'
structure LSt (C : Cx) (h₀ : Heap) (L : Addr) (s : Shared) (m : Str → Option Value) (T : Led) (X : List Addr) (μ : Mem) (I : Addr) (St : Nat → Heap → Prop) (Kk : Led) (i : Nat) : Prop where
  O : Ok C h₀ L s m T X μ
  IT : ∃ o, (I, o) ∈ T
  IX : I ∈ X
  IM : I ∉ keys μ
  st : St i s.heap
  K : ∀ p ∈ Kk, Has C.B T X p.1 p.2
section
variable {C : Cx} {n : Nat} {A A₀ : Around} {fenv : Env} {outer : List Env} {h₀ : Heap} {L : Addr} {s s' : Shared} {m m' : Str → Option Value} {T T' T₀ : Led} {X X' X₀ : List Addr} {μ μ' μ₀ : Mem} {E : Value → Shared → Prop} {I : Addr} {P : Nat → Value → Prop} {St' : Nat → Heap → Prop} {Kk : Led} {i : Nat}
theorem LSt.next (Y : Itr C A I n P St' Kk) (H : LSt C h₀ L s m T X μ I St' Kk i) (O : Ok C h₀ L s' m' T' X' μ') (st : Stp T X (keys μ) T' X' (keys μ')) : LSt C h₀ L s' m' T' X' μ' I St' Kk i := by
  obtain ⟨o, ho⟩ := H.IT
  have ho' := st.keep _ ho H.IM
  exact ⟨O, ⟨o, ho'⟩, st.xs _ H.IX, fun q => H.IM (st.mnew _ ho q), Y.re _ _ _ o H.st (H.O.N _ ho).1 (O.N _ ho').1 fun p hp => O.has ((H.K p hp).step st H.O.sub), fun p hp => (H.K p hp).step st H.O.sub⟩
theorem Stp.upd {M₀ M : List Addr} (h : Stp T₀ X₀ M₀ T X M) (hI : ∀ p ∈ T₀, p.1 ≠ I) {o : Obj} : Stp T₀ X₀ M₀ (updT T I o) X M :=
  ⟨fun p hp hn => mem_updT (h.keep p hp hn) (hI p hp), h.xs, h.xnew, h.mnew, h.mks⟩
theorem LSt.turn (Y : Itr C A I n P St' Kk) (H : LSt C h₀ L s m T X μ I St' Kk i) (hi : i < n) {Q : Option Value → Shared → Prop}
    (c : ∀ v h' tk o, P i v → LSt C h₀ L { s with heap := h', toks := tk } m (updT T I o) X μ I St' Kk (i + 1) → Q (some v) { s with heap := h', toks := tk }) : wpAny (model C.prog C.w) A (pyNext (.ref I)) Q E s := by
  obtain ⟨fp, W⟩ := Y.W
  refine W.item i s Q E hi H.st fun v h' tk hP st' hk => ?_
  obtain ⟨o', ho'⟩ := Y.io _ _ st'
  obtain ⟨o, hT⟩ := H.IT
  have hN := H.O.N _ hT
  refine c v h' tk o' hP ⟨⟨LCg.fr_but H.O.F hk (Ne.symm hN.2.1) hN.2.2, fun p hp => ?_, fun x hx => ?_, H.O.sub, fun b hb => ?_, H.O.st⟩, ⟨o', .head _⟩, H.IX, H.IM, st', fun p hp => ?_⟩
  · rcases of_updT hp with rfl | ⟨h, e⟩
    · exact ⟨ho', hN.2⟩
    · exact ⟨hk _ _ (by simpa using e) (H.O.N p h).1, (H.O.N p h).2⟩
  · exact (H.O.M x hx).upd H.IX fun e => H.IM (e ▸ List.mem_map_of_mem hx)
  · by_cases q : b = I
    · subst q; exact ⟨_, .head _⟩
    · obtain ⟨o, ho⟩ := H.O.xin b hb
      exact ⟨o, mem_updT ho q⟩
  · exact (lift_upd (C := C) (T := T) H.IX).has _ _ (H.K p hp)
theorem lift_turn {o : Obj} (H : LSt C h₀ L s m T X μ I St' Kk i) : Lift C.B T X (updT T I o) X := lift_upd H.IX
noncomputable def outT (Z : List Addr) (T : Led) : Led := T.filter fun p => decide (p.1 ∉ Z)
noncomputable def outX (Z : List Addr) (X : List Addr) : List Addr := X.filter fun a => decide (a ∉ Z)
theorem mem_outT {Z : List Addr} {p : Addr × Obj} : p ∈ outT Z T ↔ p ∈ T ∧ p.1 ∉ Z := by unfold outT; rw [List.mem_filter]; simp
theorem mem_outX {Z : List Addr} {a : Addr} : a ∈ outX Z X ↔ a ∈ X ∧ a ∉ Z := by unfold outX; rw [List.mem_filter]; simp
theorem lift_out {Z Y : List Addr} (hZ : ∀ a ∈ Z, a ∈ X) (hY : ∀ a ∈ Y, a ∈ Z ∨ a ∈ X) : Lift C.B T X (outT Z T) (outX (Z ++ Y) X) := ⟨fun a o h => by
  rcases h with h | ⟨h, hx⟩
  · exact .inl h
  · exact .inr ⟨mem_outT.mpr ⟨h, fun q => hx (hZ _ q)⟩, fun q => hx (mem_outX.mp q).1⟩⟩
theorem Ok.out (O : Ok C h₀ L s m T X μ) {Z Y : List Addr} (hZ : ∀ a ∈ Z, a ∈ X) (hY : ∀ a ∈ Y, a ∈ X) (hZm : ∀ a ∈ Z ++ Y, a ∉ keys μ) {h' : Heap} {tk : Nat} (F : Fr h₀ L h' m') (hk : ∀ p ∈ T, p.1 ∉ Z → h'.get? p.1 = some p.2) :
    Ok C h₀ L { s with heap := h', toks := tk } m' (outT Z T) (outX (Z ++ Y) X) μ := by
  refine ⟨F, fun p hp => ?_, fun x hx => ?_, fun a ha => ?_, fun a ha => ?_, O.st⟩
  · obtain ⟨h, hz⟩ := mem_outT.mp hp
    exact ⟨hk p h hz, (O.N p h).2⟩
  · have l := lift_out (C := C) (T := T) (Z := Z) (Y := Y) hZ fun a h => .inr (hY a h)
    have hxz : x.1 ∉ Z := fun q => hZm _ (List.mem_append_left _ q) (List.mem_map_of_mem hx)
    have h := O.M x hx
    unfold MOk at h ⊢
    obtain ⟨b, mo⟩ := x
    cases mo with
    | lst ys =>
      obtain ⟨us, n', h1, h2, h3⟩ := h
      exact ⟨us, n', mem_outT.mpr ⟨h1, hxz⟩, Rds.lift l _ _ h2, h3⟩
    | dict kvs =>
      obtain ⟨o', us, h1, h2, h3, h4, h5⟩ := h
      exact ⟨o', us, mem_outT.mpr ⟨h1, hxz⟩, h2, h3, Rds.lift l _ _ h4, h5⟩
  · exact mem_outX.mpr ⟨O.sub a ha, fun q => hZm a q ha⟩
  · obtain ⟨h, hz⟩ := mem_outX.mp ha
    obtain ⟨o, ho⟩ := O.xin a h
    exact ⟨o, mem_outT.mpr ⟨ho, fun q => hz (List.mem_append_left _ q)⟩⟩
theorem Stp.out {M₀ M : List Addr} (O : Ok C h₀ L s m T₀ X₀ μ₀) (h : Stp T₀ X₀ M₀ T X M) {Z Y : List Addr} (hZ : ∀ p ∈ T₀, p.1 ∉ Z ++ Y) : Stp T₀ X₀ M₀ (outT Z T) (outX (Z ++ Y) X) M :=
  ⟨fun p hp hn => mem_outT.mpr ⟨h.keep p hp hn, fun q => hZ p hp (List.mem_append_left _ q)⟩, fun a ha => mem_outX.mpr ⟨h.xs a ha, fun q => by
    obtain ⟨o, ho⟩ := O.xin a ha
    exact hZ _ ho q⟩, fun p hp hx => h.xnew p hp (mem_outX.mp hx).1, h.mnew, h.mks⟩
theorem LSt.done (Y : Itr C A I n P St' Kk) (H : LSt C h₀ L s m T X μ I St' Kk n) {Q : Option Value → Shared → Prop}
    (c : ∀ h' tk, Ok C h₀ L { s with heap := h', toks := tk } m (outT [I] T) (outX ([I] ++ []) X) μ → Q none { s with heap := h', toks := tk }) : wpAny (model C.prog C.w) A (pyNext (.ref I)) Q E s := by
  obtain ⟨fp, W⟩ := Y.W
  refine W.done s Q E H.st fun h' tk hk => ?_
  obtain ⟨o, hT⟩ := H.IT
  have hN := H.O.N _ hT
  exact c h' tk (H.O.out (by simpa using H.IX) (by simp) (by simpa using H.IM) (LCg.fr_but H.O.F hk (Ne.symm hN.2.1) hN.2.2) fun p hp hz => hk _ _ hz (H.O.N p hp).1)
theorem Ok.newI (O : Ok C h₀ L s m T X μ) {o : Obj} {h' : Heap} {tk : Nat} (F : Fr h₀ L h' m') (N : News h₀ L h' ((s.heap.objs.size, o) :: T)) :
    Ok C h₀ L { s with heap := h', toks := tk } m' ((s.heap.objs.size, o) :: T) (s.heap.objs.size :: X) μ := by
  have st : Stp T X (keys μ) ((s.heap.objs.size, o) :: T) (s.heap.objs.size :: X) (keys μ) := ⟨fun p hp _ => .tail _ hp, fun x hx => .tail _ hx, fun p hp hx => (List.mem_cons.mp hx).resolve_left (O.offT p hp), fun _ _ h => h, fun _ h => h⟩
  refine ⟨F, N, fun x hx => (O.M x hx).step st O.sub (fun h => h (List.mem_map_of_mem hx)) fun p hp _ => .tail _ hp, fun b hb => .tail _ (O.sub _ hb), fun b hb => ?_, O.st⟩
  rcases List.mem_cons.mp hb with rfl | hb
  · exact ⟨o, .head _⟩
  · obtain ⟨o', h⟩ := O.xin _ hb; exact ⟨o', .tail _ h⟩
theorem stp_newI (O : Ok C h₀ L s m T X μ) {o : Obj} : Stp T X (keys μ) ((s.heap.objs.size, o) :: T) (s.heap.objs.size :: X) (keys μ) :=
  ⟨fun p hp _ => .tail _ hp, fun x hx => .tail _ hx, fun p hp hx => (List.mem_cons.mp hx).resolve_left (O.offT p hp), fun _ _ h => h, fun _ h => h⟩
noncomputable def IK (C : Cx) (A : Around) (h₀ : Heap) (L : Addr) (s : Shared) (m : Str → Option Value) (T : Led) (X : List Addr) (μ : Mem) (k : List D → Mem → Prop) (R : Value → Shared → Prop) : Prop :=
  ∀ I P St Kk xs h' tk T' X' μ', Itr C A I xs.length P St Kk → LSt C h₀ L { s with heap := h', toks := tk } m T' X' μ' I St Kk 0 → Stp T X (keys μ) T' X' (keys μ') → (∀ p ∈ T, p.1 ≠ I) → (∀ (i : Nat) v d, P i v → xs[i]? = some d → Rd C.B T' X' v d) →
    xs.length ≤ sizeLine → k xs μ' → R (.ref I) { s with heap := h', toks := tk }
theorem pyIter_sound (hh : A.handled = none) (O : Ok C h₀ L s m T X μ) {va : Value} {d : D} {xs : List D} {k : List D → Mem → Prop} {R : Value → Shared → Prop} (r : Rd C.B T X va d) (hd : items d = some xs) (hz : xs.length ≤ sizeLine) (hk : k xs μ)
    (c : IK C A h₀ L s m T X μ k R) : wpAny (model C.prog C.w) A (pyIter va) R E s := by
  have fin : ∀ {o : Obj} {P St Kk}, o.isFreed = false → Itr C A s.heap.objs.size xs.length P St Kk → (∀ p ∈ Kk, Has C.B T X p.1 p.2) → St 0 (s.heap.push o) → (∀ i v d, P i v → xs[i]? = some d → Rd C.B T X v d) → R (.ref s.heap.objs.size) { s with heap := s.heap.push o } := by
    intro o P St Kk hf Y hK h0 hP
    have O' := O.newI (tk := s.toks) (O.F.push o) (News.push O.F O.N o hf)
    have st := stp_newI O (o := o)
    exact c _ P St Kk xs _ s.toks _ _ μ Y ⟨O', ⟨o, .head _⟩, .head _, fun q => O.fresh (O.sub _ q), h0, fun p hp => (hK p hp).step st O.sub⟩ st O.offT (fun i v d h e => Rd.lift (st.lift O.sub) _ _ (hP i v d h e)) hz hk
  cases d with
  | list ys =>
    cases hd
    obtain ⟨a, o, vs, nn, rfl, q, hc, hdat, hr⟩ := r
    have hl : s.heap.IsList a vs.toArray := ⟨o, O.has q, hc, nn, hdat⟩
    have he : vs.toArray.size = xs.length := by rw [List.size_toArray]; exact hr.length
    have hne : a ≠ s.heap.objs.size := Nat.ne_of_lt (Heap.lt_size (O.has q))
    refine wpAny_pyIter_list hl (fin (P := fun i v => vs.toArray[i]? = some v) (St := fun i h => h.IsListIter s.heap.objs.size a i ∧ h.IsList a vs.toArray) (Kk := [(a, o)]) rfl ?_ (by simpa using q) ?_ ?_)
    · refine ⟨⟨_, by have := Walks.list (prog := C.prog) (w := C.w) hh s.heap.objs.size a hne vs.toArray; rw [he] at this; exact this⟩, fun i h st => let ⟨o, e, _⟩ := st.1; ⟨o, e⟩, fun i h o st e => by
        obtain ⟨o2, e2, c2, d2⟩ := st.1
        rw [e] at e2; cases e2
        exact ⟨_, _, c2, d2, by decide⟩, fun i h h' o' st e e' hK => ?_⟩
      obtain ⟨o2, e2, r2⟩ := st.1
      rw [e] at e2; cases e2
      exact ⟨⟨o', e', r2⟩, ⟨o, hK _ (.head _), hc, nn, hdat⟩⟩
    · exact ⟨⟨_, Heap.get?_push_size _ rfl, rfl, rfl⟩, hl.push _⟩
    · intro i v d h e
      obtain ⟨w, hw, rw'⟩ := hr.get i d e
      have h' : vs[i]? = some v := by simpa using h
      rw [hw] at h'; cases h'; exact rw'
  | tup ys =>
    cases hd
    obtain ⟨a, o, vs, nn, rfl, q, hc, hdat, hr⟩ := r
    have hl : s.heap.IsTuple a vs.toArray := ⟨o, O.has q, hc, nn, hdat⟩
    have he : vs.toArray.size = xs.length := by rw [List.size_toArray]; exact hr.length
    have hne : a ≠ s.heap.objs.size := Nat.ne_of_lt (Heap.lt_size (O.has q))
    refine wpAny_pyIter_tuple hl (fin (P := fun i v => vs.toArray[i]? = some v) (St := fun i h => h.IsTupleIter s.heap.objs.size a i ∧ h.IsTuple a vs.toArray) (Kk := [(a, o)]) rfl ?_ (by simpa using q) ?_ ?_)
    · refine ⟨⟨_, by have := Walks.tuple (prog := C.prog) (w := C.w) hh s.heap.objs.size a hne vs.toArray; rw [he] at this; exact this⟩, fun i h st => let ⟨o, e, _⟩ := st.1; ⟨o, e⟩, fun i h o st e => by
        obtain ⟨o2, e2, c2, d2⟩ := st.1
        rw [e] at e2; cases e2
        exact ⟨_, _, c2, d2, by decide⟩, fun i h h' o' st e e' hK => ?_⟩
      obtain ⟨o2, e2, r2⟩ := st.1
      rw [e] at e2; cases e2
      exact ⟨⟨o', e', r2⟩, ⟨o, hK _ (.head _), hc, nn, hdat⟩⟩
    · exact ⟨⟨_, Heap.get?_push_size _ rfl, rfl, rfl⟩, ⟨o, Heap.get?_push_of_some _ (O.has q), hc, nn, hdat⟩⟩
    · intro i v d h e
      obtain ⟨w, hw, rw'⟩ := hr.get i d e
      have h' : vs[i]? = some v := by simpa using h
      rw [hw] at h'; cases h'; exact rw'
  | str x =>
    cases hd
    obtain ⟨t, rfl⟩ := rd_str r
    have hlen : (x.cps.toList.map fun c => D.str ⟨#[c]⟩).length = x.cps.size := by simp
    have hP : ∀ (i : Nat) v d, SignAt x i v → (x.cps.toList.map fun c => D.str ⟨#[c]⟩)[i]? = some d → Rd C.B T X v d := by
      intro i v d h e
      obtain ⟨c, u, hc, rfl⟩ := h
      rw [List.getElem?_map, Array.getElem?_toList, hc] at e
      cases e; exact to_str
    cases ha : x.cps.all (· < 128) with
    | true =>
      refine wpAny_pyIter_ascii ha (fin (P := SignAt x) (St := fun i h => h.IsStrIter s.heap.objs.size "str_ascii_iterator" x t i) (Kk := []) rfl ⟨⟨_, by rw [hlen]; exact Walks.strAscii hh _ x t⟩, fun i h st => let ⟨o, e, _⟩ := st; ⟨o, e⟩, fun i h o st e => by
        obtain ⟨o2, e2, c2, d2⟩ := st
        rw [e] at e2; cases e2
        exact ⟨_, _, c2, d2, by decide⟩, fun i h h' o' st e e' hK => ?_⟩ (fun p hp => nomatch hp) ⟨_, Heap.get?_push_size _ rfl, rfl, rfl⟩ hP)
      obtain ⟨o2, e2, r2⟩ := st
      rw [e] at e2; cases e2
      exact ⟨o', e', r2⟩
    | false =>
      refine wpAny_pyIter_wide ha (fin (P := SignAt x) (St := fun i h => h.IsStrIter s.heap.objs.size "str_iterator" x t i) (Kk := []) rfl ⟨⟨_, by rw [hlen]; exact Walks.strWide hh _ x t⟩, fun i h st => let ⟨o, e, _⟩ := st; ⟨o, e⟩, fun i h o st e => by
        obtain ⟨o2, e2, c2, d2⟩ := st
        rw [e] at e2; cases e2
        exact ⟨_, _, c2, d2, by decide⟩, fun i h h' o' st e e' hK => ?_⟩ (fun p hp => nomatch hp) ⟨_, Heap.get?_push_size _ rfl, rfl, rfl⟩ hP)
      obtain ⟨o2, e2, r2⟩ := st
      rw [e] at e2; cases e2
      exact ⟨o', e', r2⟩
  | _ => cases hd
end
noncomputable def clGo (env : Env) : List (Str × NameKind) → List (Str × Addr) → List (Str × Addr)
  | [], cs => cs
  | (n, k) :: r, cs => if (k == .free) = true then clGo env r ((n, (env.cells.lookup n).getD 0) :: cs) else clGo env r cs
theorem closure_go (env : Env) : ∀ (l : List (Str × NameKind)) (cs : List (Str × Addr)), (∀ y ∈ l, y.2 = .free → ∃ c, env.cells.lookup y.1 = some c) →
    (forIn l cs fun (x : Str × NameKind) (cs : List (Str × Addr)) => (match x with | (name, kind) => if (kind == .free) = true then (do let a ← cellOf env name; pure (ForInStep.yield ((name, a) :: cs))) else pure (ForInStep.yield cs) : Sem (ForInStep (List (Str × Addr))))) = pure (clGo env l cs)
  | [], cs, _ => rfl
  | (n, k) :: r, cs, h => by
    rw [List.forIn_cons]
    unfold clGo
    by_cases q : (k == .free) = true
    · obtain ⟨c, hc⟩ := h _ (.head _) (eq_of_beq q)
      simp only at hc
      simp only [q, if_true]
      have : cellOf env n = pure c := by unfold cellOf; rw [hc]
      rw [this, hc]
      exact closure_go env r _ fun y hy => h y (.tail _ hy)
    · simp only [q, if_false]
      exact closure_go env r _ fun y hy => h y (.tail _ hy)
theorem closureFor_clGo {scope : Scope} {env : Env} (h : ∀ y ∈ scope.names, y.2 = .free → ∃ c, env.cells.lookup y.1 = some c) : closureFor scope env = pure (clGo env scope.names []) := by
  have := closure_go env scope.names [] h
  unfold closureFor
  simp only [bind_pure]
  exact this
theorem lookup_mem {α : Type} {x : Str} {a : α} : ∀ {l : List (Str × α)}, l.lookup x = some a → (x, a) ∈ l
  | [], h => by simp at h
  | (y, b) :: r, h => by
    rw [List.lookup_cons] at h
    cases q : x == y with
    | true => rw [q] at h; cases h; rw [eq_of_beq q]; exact .head _
    | false => rw [q] at h; exact .tail _ (lookup_mem h)
theorem mem_lookup {α : Type} {x : Str} {a : α} : ∀ {l : List (Str × α)}, (x, a) ∈ l → ∃ b, l.lookup x = some b
  | [], h => by simp at h
  | (y, b) :: r, h => by
    rw [List.lookup_cons]
    cases q : x == y with
    | true => exact ⟨b, rfl⟩
    | false =>
      rcases List.mem_cons.mp h with e | h
      · cases e; simp at q
      · exact mem_lookup h
theorem clGo_mem {env : Env} : ∀ (l : List (Str × NameKind)) (cs : List (Str × Addr)) (y : Str) (a : Addr), (y, a) ∈ clGo env l cs → (y, a) ∈ cs ∨ a = (env.cells.lookup y).getD 0
  | [], cs, y, a, h => .inl h
  | (n, k) :: r, cs, y, a, h => by
    unfold clGo at h
    by_cases q : (k == .free) = true
    · rw [if_pos q] at h
      rcases clGo_mem r _ y a h with h | h
      · rcases List.mem_cons.mp h with e | h
        · cases e; exact .inr rfl
        · exact .inl h
      · exact .inr h
    · rw [if_neg q] at h; exact clGo_mem r _ y a h
theorem clGo_has {env : Env} : ∀ (l : List (Str × NameKind)) (cs : List (Str × Addr)) (y : Str), ((y, NameKind.free) ∈ l ∨ ∃ a, (y, a) ∈ cs) → ∃ a, (y, a) ∈ clGo env l cs
  | [], cs, y, h => h.elim (fun h => nomatch h) fun h => h
  | (n, k) :: r, cs, y, h => by
    unfold clGo
    by_cases q : (k == .free) = true
    · rw [if_pos q]
      refine clGo_has r _ y ?_
      rcases h with h | ⟨a, h⟩
      · rcases List.mem_cons.mp h with e | h
        · cases e; exact .inr ⟨_, .head _⟩
        · exact .inl h
      · exact .inr ⟨a, .tail _ h⟩
    · rw [if_neg q]
      refine clGo_has r _ y ?_
      rcases h with h | h
      · rcases List.mem_cons.mp h with e | h
        · cases e; exact absurd rfl q
        · exact .inl h
      · exact .inr h
theorem clGo_lookup {env : Env} {l : List (Str × NameKind)} {y : Str} {c : Addr} (h : (y, NameKind.free) ∈ l) (hc : env.cells.lookup y = some c) : (clGo env l []).lookup y = some c := by
  obtain ⟨a, ha⟩ := clGo_has (env := env) l [] y (.inl h)
  obtain ⟨b, hb⟩ := mem_lookup ha
  rcases clGo_mem l [] y b (lookup_mem hb) with h' | h'
  · cases h'
  · rw [hb, h', hc]; rfl
theorem relabel_glob {env : Env} {scope : Scope} {x : Str} (h : scope.names.lookup x = some .globalImplicit) : (relabel scope env).names.lookup x = some .globalImplicit := by
  unfold relabel
  simp only
  generalize scope.names = l at h
  induction l with
  | nil => simp at h
  | cons p r ih =>
    obtain ⟨n, k⟩ := p
    rw [List.lookup_cons] at h
    rw [List.map_cons]
    cases q : x == n with
    | true =>
      rw [q] at h; cases h
      simp [List.lookup_cons, q]
    | false =>
      rw [q] at h
      by_cases hc : (k == NameKind.free && env.scope.kind == .function && env.kindOf n == some .cell) = true
      · simp only [hc, if_true]; rw [List.lookup_cons, q]; exact ih h
      · simp only [hc, Bool.false_eq_true, if_false]; rw [List.lookup_cons, q]; exact ih h
theorem relabel_free {env : Env} {scope : Scope} {x : Str} (h : scope.names.lookup x = some .free) (hk : env.scope.kind = .function) (hc : env.kindOf x = some .cell) : (relabel scope env).names.lookup x = some .cell := by
  unfold relabel
  simp only
  generalize scope.names = l at h
  induction l with
  | nil => simp at h
  | cons p r ih =>
    obtain ⟨n, k⟩ := p
    rw [List.lookup_cons] at h
    rw [List.map_cons]
    cases q : x == n with
    | true =>
      rw [q] at h; cases h
      obtain rfl := eq_of_beq q
      simp [List.lookup_cons, hk, hc]
    | false =>
      rw [q] at h
      by_cases hc : (k == NameKind.free && env.scope.kind == .function && env.kindOf n == some .cell) = true
      · simp only [hc, if_true]; rw [List.lookup_cons, q]; exact ih h
      · simp only [hc, Bool.false_eq_true, if_false]; rw [List.lookup_cons, q]; exact ih h
theorem compSc_of {S : Sc} {x : Str} {sc : Scope} (h : compSc S x sc = true) : sc.kind = .function ∧ varK (sc.names.lookup ⟨#[]⟩) = false ∧ notDbg x = true ∧ sc.names.lookup x = some .local ∧
    (∀ y ∈ sc.names, (y.2 = .local ∧ (y.1 = x ∨ (y.1 = dot0 ∧ sc.names.lookup dot0 = some .local))) ∨ (y.2 = .free ∧ S.sc.names.lookup y.1 = some .cell) ∨ y.2 = .globalImplicit) ∧ ∀ y ∈ S.nm, y ≠ dot0 := by
  unfold compSc at h
  simp only [Bool.and_eq_true, Bool.not_eq_true'] at h
  obtain ⟨⟨⟨⟨⟨h0, h1⟩, h2⟩, h3⟩, h4⟩, h5⟩ := h
  rw [lkS_eq] at h2 h4
  refine ⟨isFunc_of h1, h2, h3, isL_of h4, fun y hy => ?_, fun y hy => ?_⟩
  · have := allB_of h5 y hy
    split at this
    · rename_i e
      rw [Bool.or_eq_true, Bool.and_eq_true, lkS_eq] at this
      exact .inl ⟨e, this.imp sb_eq fun q => ⟨sb_eq q.1, isL_of q.2⟩⟩
    · rename_i e; rw [lkS_eq] at this; exact .inr (.inl ⟨e, isC_of this⟩)
    · rename_i e; exact .inr (.inr e)
    · cases this
  · have := allB_of h0 y hy
    rw [Bool.not_eq_true'] at this
    exact sb_ne this
theorem EnvOk.comp {C : Cx} {L : Addr} {env : Env} {S : Sc} {m : Str → Option Value} {T : Led} {X Mu : List Addr} {loc : List D} (V : EnvOk C L env S m T X Mu loc) {x : Str} {sc : Scope} (okc : compSc S x sc = true)
    {Ca : Addr} {oC : Obj} {m₂ : Str → Option Value} {v : Value} {d : D} (hT : (Ca, oC) ∈ T) (hM : Ca ∉ Mu) (hN : LCg.NsObj oC m₂) (hx : m₂ x = some v) (r : Rd C.B T X v d) :
    EnvOk C L (compEnvC sc (clGo env sc.names []) Ca env) ⟨hideN x S.nm ++ [x], sc⟩ m T X Mu (loc ++ [d]) := by
  obtain ⟨h1, h2, h3, h4, h5, h6⟩ := compSc_of okc
  refine ⟨h1, V.gs, V.bs, by simp [hideN, V.len], fun y hy => relabel_glob hy, fun i y d' hi hv hl hd => ?_, fun y hy => ?_⟩
  · have hlen : (hideN x S.nm).length = S.nm.length := by simp [hideN]
    by_cases q : i < S.nm.length
    · rw [List.getElem?_append_left (by rw [hlen]; exact q)] at hi
      rw [List.getElem?_append_left (by rw [V.len]; exact q)] at hl
      unfold hideN at hi
      rw [List.getElem?_map] at hi
      have hg : S.nm[i]? = some S.nm[i] := List.getElem?_eq_getElem q
      rw [hg] at hi
      simp only [Option.map_some, Option.some.injEq] at hi
      cases hs : sb S.nm[i] x with
      | true =>
        rw [hs] at hi
        simp only at hi
        subst hi
        simp only at hv
        rw [h2] at hv; cases hv
      | false =>
        rw [hs] at hi
        simp only at hi
        subst hi
        simp only at hv
        cases ho : sc.names.lookup S.nm[i] with
        | none => rw [ho] at hv; cases hv
        | some kk =>
          rcases h5 _ (lookup_mem ho) with ⟨_, e | e⟩ | ⟨e, hc⟩ | e
          · exact absurd e (sb_ne hs)
          · exact absurd e.1 (h6 _ (List.getElem_mem q))
          · simp only at e hc
            subst e
            obtain ⟨w, hw, rw'⟩ := V.rd i _ d' hg (by rw [hc]; rfl) hl hd
            obtain ⟨hk, c, hcl⟩ := V.cell _ hc
            refine ⟨w, ?_, rw'⟩
            cases hw with
            | loc a _ _ => rw [hk] at a; cases a
            | own o m₂ a _ _ _ _ => rw [hk] at a; cases a
            | cell c' o a b dd e f =>
              exact .cell c' o (relabel_free ho V.kind hk) (clGo_lookup (lookup_mem ho) b) dd e f
          · simp only at e
            subst e
            rw [ho] at hv; cases hv
    · have hi' : i = S.nm.length := by
        by_cases q2 : i = S.nm.length
        · exact q2
        · rw [List.getElem?_append_right (by rw [hlen]; (clear hlen; lia))] at hi
          rw [hlen, List.getElem?_eq_none (by simp; (clear hlen hd; lia))] at hi
          cases hi
      subst hi'
      rw [List.getElem?_append_right (by rw [hlen]; exact Nat.le_refl _), hlen, Nat.sub_self] at hi
      rw [List.getElem?_append_right (by rw [V.len]; exact Nat.le_refl _), V.len, Nat.sub_self] at hl
      simp only [List.getElem?_cons_zero, Option.some.injEq] at hi hl
      subst hi; subst hl
      exact ⟨v, .own oC m₂ (lookup_relabel_local h4) hT hM hN hx, r⟩
  · simp only at hy
    rcases h5 _ (lookup_mem hy) with ⟨e, _⟩ | ⟨e, _⟩ | e <;> cases e
section
variable {C : Cx} {Γ : Cfg} {n : Nat} {A A₀ : Around} {fenv : Env} {outer : List Env} {h₀ : Heap} {L : Addr} {env : Env} {s s' s₀ : Shared} {m m' : Str → Option Value} {T T' T₀ : Led} {X X' X₀ : List Addr} {μ μ' μ₀ : Mem} {loc : List D} {E : Value → Shared → Prop} {I : Addr} {P : Nat → Value → Prop} {St' : Nat → Heap → Prop} {Kk : Led} {i : Nat}
theorem Stp.addr (h : Stp T X (keys μ) T' X' (keys μ')) (O : Ok C h₀ L s m T' X' μ') : ∀ p ∈ T, ∃ o, (p.1, o) ∈ T' := fun p hp => by
  by_cases q : p.1 ∈ keys μ
  · exact O.xin _ (O.sub _ (h.mks _ q))
  · exact ⟨p.2, h.keep p hp q⟩
theorem IK.next {k : List D → Mem → Prop} {R : Value → Shared → Prop} (O : Ok C h₀ L s m T X μ) (c : IK C A h₀ L s m T X μ k R) {h' : Heap} {tk : Nat} (O' : Ok C h₀ L { s with heap := h', toks := tk } m T' X' μ') (st : Stp T X (keys μ) T' X' (keys μ')) :
    IK C A h₀ L { s with heap := h', toks := tk } m T' X' μ' k R :=
  fun I P St Kk xs h'' tk' T'' X'' μ'' Y H st' hT hP hz hk => c I P St Kk xs h'' tk' T'' X'' μ'' Y H (st.trans st' O.sub) (fun p hp => by
    obtain ⟨o, ho⟩ := st.addr O' p hp
    exact hT (p.1, o) ho) hP hz hk
theorem src_plain {it : ME} (ha : SE C Γ n it) {S : Sc} {iter : PySem.Expr} (ok : okE Γ S it iter = true) (H : St C n S A A₀ fenv outer h₀ L env s m T X μ loc) {k : List D → Mem → Prop} {R : Value → Shared → Prop}
    (v : vcE Γ it loc μ fun d μ1 => onSm (items d) fun xs => xs.length ≤ sizeLine ∧ k xs μ1) (c : IK C A h₀ L s m T X μ k R) :
    wpAny (model C.prog C.w) A (eval iter env) (fun x s₁ => wpAny (model C.prog C.w) A (pyIter x) R E s₁) E s := by
  refine ha S iter ok A A₀ fenv outer h₀ L env s m T X μ loc _ E _ H v fun va d h1 tk1 T1 X1 μ1 O1 st1 r1 k1 => ?_
  obtain ⟨xs, hd, k1, k2⟩ := onSm_inv k1
  exact pyIter_sound H.F.hh O1 r1 hd k1 k2 (IK.next H.O c O1 st1)
theorem callWith_ty {M : Model} {Q : Value → Shared → Prop} {Ty : String} {first : List Value} {pos : Pos} {ps : List PySem.Expr} (hp : ps ≠ [])
    (h : wpAny M A (spliced (ps.map fun e => (false, eval e env))) (fun vs s₁ => wpAny M A (call (.type Ty) (first ++ vs)) Q E s₁) E s) :
    wpAny M A (callWith pos (.type Ty) first (ps.map fun e => (false, eval e env)) []) Q E s := by
  refine PyProof.Rows.callWith_type (any_plain ps env) ?_
  cases ps with
  | nil => exact absurd rfl hp
  | cons e r => exact evalArgs_plain h
theorem range_iter (hh : A.handled = none) (O : Ok C h₀ L s m T X μ) {a b : Int} {r : Addr} {t u v : Tok} {nn : Nat} {xs : List D} {k : List D → Mem → Prop} {R : Value → Shared → Prop} (hr : IsRange s.heap r a b 1 t u v)
    (ha : -(2 ^ 62) ≤ a) (ha' : a < 2 ^ 62) (hb : -(2 ^ 62) ≤ b) (hb' : b < 2 ^ 62) (hn : (nn : Int) = if a < b then b - a else 0) (hl : nn ≤ sizeLine) (hxs : xs = (List.range nn).map fun i => .int (a + (i : Nat))) (hk : k xs μ) (c : IK C A h₀ L s m T X μ k R) :
    wpAny (model C.prog C.w) A (pyIter (.ref r)) R E s := by
  refine wpAny_pyIter_range hr (small_one ha ha' hb hb') ?_
  have hlen : xs.length = nn := by rw [hxs]; simp
  have O' := O.newI (tk := s.toks) (O.F.push { cls := .type "range_iterator", data := .fields #[rawInt a, rawInt (Builtin.Range.rangeSize a b 1), rawInt 1] }) (News.push O.F O.N _ rfl)
  have st := stp_newI O (o := { cls := .type "range_iterator", data := .fields #[rawInt a, rawInt (Builtin.Range.rangeSize a b 1), rawInt 1] })
  refine c s.heap.objs.size (fun i v => ∃ t, v = .int (a + (i : Int)) t) (fun i h => IsRangeIter h s.heap.objs.size (a + (i : Nat) * 1) ((xs.length : Int) - (i : Nat)) 1) [] xs _ s.toks _ _ μ
    ⟨⟨_, LCg.range_walks hh a xs.length⟩, fun i h st => ⟨_, st⟩, fun i h o st e => by
      have st' : h.get? s.heap.objs.size = some _ := st
      rw [st'] at e; cases e
      exact ⟨_, _, rfl, rfl, by decide⟩, fun i h h' o st e e' _ => ?_⟩ ⟨O', ⟨_, .head _⟩, .head _, fun q => O.fresh (O.sub _ q), ?_, fun p hp => nomatch hp⟩ st O.offT (fun i v d h e => ?_) (hlen ▸ hl) hk
  · have st' : h.get? s.heap.objs.size = some _ := st
    show h'.get? s.heap.objs.size = some _
    rw [e', ← e]; exact st'
  · show IsRangeIter _ _ _ _ _
    rw [rangeSize_one, ← hn, hlen]
    simpa using Heap.get?_push_size _ rfl
  · obtain ⟨t, rfl⟩ := h
    rw [hxs, List.getElem?_map] at e
    cases q : (List.range nn)[i]? with
    | none => rw [q] at e; cases e
    | some j =>
      rw [q] at e
      have : j = i := by
        have := List.getElem?_eq_some_iff.mp q
        obtain ⟨h1, h2⟩ := this
        simpa using h2.symm
      subst this
      cases e; exact to_int
theorem rng_one {b : Int} (h : -2 ^ 60 ≤ b) (g : b ≤ (16777216 : Nat)) : -(2 ^ 62) ≤ b ∧ b < 2 ^ 62 ∧ (b.toNat : Int) = (if 0 < b then b - 0 else 0) ∧ b.toNat ≤ 16777216 := by
  refine ⟨by (clear g; lia), by (clear h; lia), ?_, by (clear h; lia)⟩
  by_cases q : 0 < b
  · rw [if_pos q]; (clear g h; lia)
  · rw [if_neg q]; (clear h; lia)
theorem rng_two {a b : Int} (h1 : -2 ^ 60 ≤ a) (h2 : a ≤ 2 ^ 60) (h3 : -2 ^ 60 ≤ b) (h4 : b ≤ 2 ^ 60) (h5 : b - a ≤ (16777216 : Nat)) : -(2 ^ 62) ≤ a ∧ a < 2 ^ 62 ∧ -(2 ^ 62) ≤ b ∧ b < 2 ^ 62 ∧ ((b - a).toNat : Int) = (if a < b then b - a else 0) ∧ (b - a).toNat ≤ 16777216 := by
  refine ⟨by (clear h2; lia), by (clear h1; lia), by (clear h4; lia), by (clear h3; lia), ?_, by lia⟩
  by_cases q : a < b
  · rw [if_pos q]; lia
  · rw [if_neg q]; lia
theorem src_range (G : Good C Γ n) {rg : List ME} (he : SL C Γ n rg) {S : Sc} {f : Str} {p0 p1 : Pos} {args : List PySem.Expr} (hf : f = Str.ofString "range") (hg : isG S f = true) (ok : okEs Γ S rg args = true) (hne : args ≠ []) (H : St C n S A A₀ fenv outer h₀ L env s m T X μ loc) {k : List D → Mem → Prop} {R : Value → Shared → Prop}
    (v : vcEs Γ rg loc μ fun ds μ1 => smallR ds ∧ onSm (rangeOf ds) fun xs => k xs μ1) (c : IK C A h₀ L s m T X μ k R) :
    wpAny (model C.prog C.w) A (eval (.Call (.Name f p0) args [] p1) env) (fun x s₁ => wpAny (model C.prog C.w) A (pyIter x) R E s₁) E s := by
  subst hf
  refine Call_Name rfl (H.builtin hg G.rg.1 G.rg.2 ?_)
  rw [starEach_of Γ S ok, back_of]
  refine callWith_ty hne (he S args ok A A₀ fenv outer h₀ L env s m T X μ loc _ E _ H v fun vs ds h' tk T' X' μ' hl O' st rs kk => ?_)
  obtain ⟨hs, kk⟩ := kk
  cases ds with
  | nil => exact hs.elim
  | cons d ds =>
  cases ds with
  | nil =>
    obtain ⟨w, rfl, rb⟩ := rds1 rs
    obtain ⟨b, rfl, hb⟩ := onInt_inv hs
    obtain ⟨t, rfl⟩ := rd_int rb
    rw [sizeLine_eq] at hb
    refine call_range_1 ?_
    have O2 : Ok C h₀ L { s with heap := h'.push { cls := .type "range", data := .fields #[.int 0 tk, .int b t, .int 1 (tk + 1)] }, toks := tk + 1 + 1 } m T' X' μ' := O'.more (O'.F.push _) (O'.N.pushKeep _) fun _ h => h
    obtain ⟨b1, b2, b3, b4⟩ := rng_one hb.1 hb.2
    refine range_iter (nn := b.toNat) H.F.hh O2 (IsRange.new h' 0 b 1 tk t (tk + 1)) (by decide) (by decide) b1 b2 b3 (by rw [sizeLine_eq]; exact b4) ?_ kk (IK.next H.O c O2 st)
    refine List.map_congr_left fun i _ => ?_
    rw [Int.zero_add]
  | cons e ds =>
  cases ds with
  | cons _ _ => exact hs.elim
  | nil =>
    obtain ⟨w, w', rfl, ra, rb⟩ := rds2 rs
    obtain ⟨a, rfl, hs1⟩ := onInt_inv hs
    obtain ⟨b, rfl, hs2⟩ := onInt_inv hs1
    obtain ⟨t, rfl⟩ := rd_int ra
    obtain ⟨u, rfl⟩ := rd_int rb
    rw [sizeLine_eq] at hs2
    refine call_range_2 ?_
    have O2 : Ok C h₀ L { s with heap := h'.push { cls := .type "range", data := .fields #[.int a t, .int b u, .int 1 tk] }, toks := tk + 1 } m T' X' μ' := O'.more (O'.F.push _) (O'.N.pushKeep _) fun _ h => h
    obtain ⟨b1, b2, b3, b4, b5, b6⟩ := rng_two hs2.1 hs2.2.1 hs2.2.2.1 hs2.2.2.2.1 hs2.2.2.2.2
    exact range_iter (nn := (b - a).toNat) H.F.hh O2 (IsRange.new h' a b 1 t u tk) b1 b2 b3 b4 b5 (by rw [sizeLine_eq]; exact b6) rfl kk (IK.next H.O c O2 st)
end
section
variable {C : Cx} {Γ : Cfg} {n : Nat} {A A₀ : Around} {fenv : Env} {outer : List Env} {h₀ : Heap} {L : Addr} {env : Env} {s s' s₀ : Shared} {m m' : Str → Option Value} {T T' T₀ T₁ : Led} {X X' X₀ X₁ : List Addr} {μ μ' μ₀ : Mem} {loc : List D} {E : Value → Shared → Prop} {I : Addr} {P : Nat → Value → Prop} {St' : Nat → Heap → Prop} {Kk : Led} {i : Nat}
theorem Ok.change (O : Ok C h₀ L s m T X μ) {a : Addr} {o o' : Obj} {h' : Heap} {tk : Nat} (hT : (a, o) ∈ T) (hX : a ∈ X) (hM : a ∉ keys μ) (hs : Heap.SameBut a s.heap h') (ho : h'.get? a = some o') :
    Ok C h₀ L { s with heap := h', toks := tk } m (updT T a o') X μ := by
  have hN := O.N _ hT
  refine ⟨O.F.change hs hN.2.1 hN.2.2, fun p hp => ?_, fun x hx => (O.M x hx).upd hX fun e => hM (e ▸ List.mem_map_of_mem hx), O.sub, fun b hb => ?_, O.st⟩
  · rcases of_updT hp with rfl | ⟨h, e⟩
    · exact ⟨ho, hN.2⟩
    · exact ⟨(hs.2 _ e).trans (O.N p h).1, (O.N p h).2⟩
  · by_cases q : b = a
    · subst q; exact ⟨_, .head _⟩
    · obtain ⟨o, ho⟩ := O.xin b hb
      exact ⟨o, mem_updT ho q⟩
theorem LSt.change (Y : Itr C A I n P St' Kk) (H : LSt C h₀ L s m T X μ I St' Kk i) {a : Addr} {o o' : Obj} {h' : Heap} {tk : Nat} (hT : (a, o) ∈ T) (hX : a ∈ X) (hM : a ∉ keys μ) (hI : I ≠ a) (hs : Heap.SameBut a s.heap h') (ho : h'.get? a = some o') :
    LSt C h₀ L { s with heap := h', toks := tk } m (updT T a o') X μ I St' Kk i := by
  have O' := H.O.change (tk := tk) hT hX hM hs ho
  obtain ⟨oI, hI'⟩ := H.IT
  have l := lift_upd (C := C) (T := T) (o := o') hX
  refine ⟨O', ⟨oI, mem_updT hI' hI⟩, H.IX, H.IM, Y.re _ _ _ oI H.st (H.O.N _ hI').1 ((hs.2 _ hI).trans (H.O.N _ hI').1) fun p hp => O'.has (l.has _ _ (H.K p hp)), fun p hp => l.has _ _ (H.K p hp)⟩
theorem tests_sound {cond : List ME} {ifs : List PySem.Expr} (hc : ∀ e ∈ cond, SB C Γ n e) (hl : ifs.length ≤ 1) {S : Sc} (ok : okEs Γ S cond ifs = true) (H : St C n S A A₀ fenv outer h₀ L env s m T X μ loc) {kc : KE} {R : Bool → Shared → Prop}
    (v : vcAnd Γ cond loc μ kc) (c : ∀ b h' tk T' X' μ', Ok C h₀ L { s with heap := h', toks := tk } m T' X' μ' → Stp T X (keys μ) T' X' (keys μ') → kc (.bool b) μ' → R b { s with heap := h', toks := tk }) :
    wpAny (model C.prog C.w) A (forIn ifs true fun c r => if r = true then do let ok ← isTrue c env (eval c env); pure (ForInStep.yield ok) else pure (ForInStep.yield r)) R E s := by
  cases ifs with
  | nil =>
    cases cond with
    | cons _ _ => cases ok
    | nil =>
      exact wpAny_tests_nil (c true s.heap s.toks T X μ (H.O.same _) (.refl ..) v)
  | cons p ps =>
    cases ps with
    | cons _ _ => simp at hl
    | nil =>
      cases cond with
      | nil => cases ok
      | cons e es =>
        have ok := okEs_cons ok
        cases es with
        | cons _ _ => cases ok.2
        | nil =>
          refine wpAny_tests_one (hc e (.head _) S p ok.1 A A₀ fenv outer h₀ L env s m T X μ loc _ E _ H v (fun d μ h => ?_) fun b h' tk T' X' μ' O' st kk => ?_)
          · exact bl_of h
          · cases b with
            | false => exact c _ _ _ _ _ _ O' st (kk.1 rfl)
            | true => have := kk.2 rfl; exact c _ _ _ _ _ _ O' st this
structure CInv (C : Cx) (h₀ : Heap) (L : Addr) (m : Str → Option Value) (T₀ : Led) (X₀ : List Addr) (μ₀ : Mem) (T₁ : Led) (X₁ : List Addr) (s : Shared) (T : Led) (X : List Addr) (μ : Mem) (I : Addr) (St' : Nat → Heap → Prop) (Kk : Led) (i : Nat) (Ca Da : Addr) (acc : List D) (b : Nat) : Prop where
  H : LSt C h₀ L s m T X μ I St' Kk i
  st : Stp T₀ X₀ (keys μ₀) T X (keys μ)
  lf : Lift C.B T₁ X₁ T X
  cT : ∃ oC m₂, (Ca, oC) ∈ T ∧ LCg.NsObj oC m₂
  cX : Ca ∈ X
  cM : Ca ∉ keys μ
  dT : ∃ vs nn, (Da, { cls := .type "list", data := .seq vs.toArray nn }) ∈ T ∧ Rds C.B T X vs acc ∧ vs.length ≤ b
  dX : Da ∈ X
  dM : Da ∉ keys μ
variable {Ca Da : Addr} {acc : List D} {b : Nat}
theorem CInv.next (Y : Itr C A I n P St' Kk) (H₀ : ∀ a ∈ keys μ₀, a ∈ X₀) (J : CInv C h₀ L m T₀ X₀ μ₀ T₁ X₁ s T X μ I St' Kk i Ca Da acc b) (O : Ok C h₀ L s' m T' X' μ') (st : Stp T X (keys μ) T' X' (keys μ')) : CInv C h₀ L m T₀ X₀ μ₀ T₁ X₁ s' T' X' μ' I St' Kk i Ca Da acc b := by
  obtain ⟨oC, m₂, h1, h2⟩ := J.cT
  obtain ⟨vs, nn, h3, h4, h5⟩ := J.dT
  have l := st.lift (B := C.B) J.H.O.sub
  exact ⟨J.H.next Y O st, J.st.trans st H₀, ⟨fun a o h => l.has _ _ (J.lf.has _ _ h)⟩, ⟨oC, m₂, st.keep _ h1 J.cM, h2⟩, st.xs _ J.cX, fun q => J.cM (st.mnew _ h1 q), ⟨vs, nn, st.keep _ h3 J.dM, Rds.lift l _ _ h4, h5⟩, st.xs _ J.dX, fun q => J.dM (st.mnew _ h3 q)⟩
noncomputable def CFin (C : Cx) (h₀ : Heap) (L : Addr) (s₀ : Shared) (m : Str → Option Value) (T₀ : Led) (X₀ : List Addr) (μ₀ : Mem) (k : KE) (RR : Value → Addr → Result → Shared → Prop) : Prop :=
  ∀ (Ca Da : Addr) (h' : Heap) (tk : Nat) (T : Led) (X : List Addr) (μ : Mem) (acc : List D) (oC : Obj) (m₃ : Str → Option Value) (vs : List Value) (nn : Nat), Ok C h₀ L { s₀ with heap := h', toks := tk } m T X μ → Stp T₀ X₀ (keys μ₀) T X (keys μ) →
    (Ca, oC) ∈ T → LCg.NsObj oC m₃ → Ca ∈ X → Ca ∉ keys μ → (Da, { cls := .type "list", data := .seq vs.toArray nn }) ∈ T → Rds C.B T X vs acc → Da ∈ X → Da ∉ keys μ → Da ≠ Ca → (∀ p ∈ T₀, p.1 ≠ Da ∧ p.1 ≠ Ca) → k (.list acc) μ →
    RR (.ref Da) Ca (.ok .next) { s₀ with heap := h', toks := tk }
theorem sub_lt {n i : Nat} (h : i < n) : n + 1 - (i + 1) < n + 1 - i := by lia
theorem comp_core {elt : ME} {cond : List ME} (he : SE C Γ n elt) (hc : ∀ e ∈ cond, SB C Γ n e) {S : Sc} {sc : Scope} {x : Str} {e iter : PySem.Expr} {ifs : List PySem.Expr} {px pos : Pos} (okc : compSc S x sc = true)
    (ok1 : okE Γ ⟨hideN x S.nm ++ [x], sc⟩ elt e = true) (ok2 : okEs Γ ⟨hideN x S.nm ++ [x], sc⟩ cond ifs = true) (hlen : ifs.length ≤ 1)
    (H₀ : St C n S A A₀ fenv outer h₀ L env s₀ m T₀ X₀ μ₀ loc) {xs : List D} {h₁ : Heap} {tk₁ : Nat} (Y : Itr C A I xs.length P St' Kk) (HL : LSt C h₀ L { s₀ with heap := h₁, toks := tk₁ } m T X μ I St' Kk 0) (st0 : Stp T₀ X₀ (keys μ₀) T X (keys μ))
    (offI : ∀ p ∈ T₀, p.1 ≠ I) (hP : ∀ (i : Nat) v d, P i v → xs[i]? = some d → Rd C.B T X v d) (hz : xs.length ≤ sizeLine) {k : KE} {RR : Value → Addr → Result → Shared → Prop}
    (v : compGo (fun x μ k => vcAnd Γ cond (loc ++ [x]) μ k) (fun x μ k => vcE Γ elt (loc ++ [x]) μ k) xs [] μ fun ys μ2 => k (.list ys) μ2) (PP : CFin C h₀ L s₀ m T₀ X₀ μ₀ k RR) :
    wpAny (model C.prog C.w) A (newList []) (fun acc s₃ => wpAny (model C.prog C.w) A (newFunctionEnv sc env.globals (clGo env sc.names []) [] env.qual none .none (some env)) (fun cenv s₄ =>
      codeAny (model C.prog C.w) A (.compStart (.ListComp e [⟨.Name x px, iter, ifs, 0⟩] sc pos) 0 (.ref I) acc { cenv with scope := relabel sc env }) (RR acc cenv.locals) s₄) E s₃) E { s₀ with heap := h₁, toks := tk₁ } := by
  obtain ⟨c1, c2, c3, c4, c5, c6⟩ := compSc_of okc
  have hcell : ∀ y ∈ sc.names, y.2 ≠ .cell := fun y hy q => by rcases c5 y hy with ⟨e, _⟩ | ⟨e, _⟩ | e <;> rw [e] at q <;> cases q
  refine wpAny_newObj_type (wpAny_newFunctionEnv hcell (by intro y hy; simp at hy) (fun h₂ hns₂ hsb₂ => ?_) c1)
  dsimp only at hns₂ hsb₂ ⊢
  generalize hO2 : ({ cls := .type "list", dict := none, data := .seq ([] : List Value).toArray } : Obj) = oD at hns₂ hsb₂ ⊢
  generalize hH2 : h₁.push oD = H2 at hns₂ hsb₂ ⊢
  have hDsz : H2.objs.size = h₁.objs.size + 1 := by rw [← hH2, Heap.size_push]
  have hfD : oD.isFreed = false := by rw [← hO2]; rfl
  have O1 := HL.O.newI (tk := tk₁) (HL.O.F.push oD) (News.push HL.O.F HL.O.N oD hfD)
  have s1 := stp_newI HL.O (o := oD)
  have HL1 := HL.next Y O1 s1
  simp only at HL1 s1 O1
  rw [hH2] at HL1 O1
  obtain ⟨oC, heC, hoC⟩ := LCg.ns_obj hns₂
  have up2 : ∀ b o, H2.get? b = some o → h₂.get? b = some o := fun b o e => hsb₂.extBut b o (Nat.ne_of_lt (Heap.lt_size e)) (Heap.get?_push_of_some _ e)
  have hC₀ : h₀.get? H2.objs.size = none := by
    cases e : h₀.get? H2.objs.size with
    | none => rfl
    | some o' => exact absurd (Heap.lt_size (O1.F.keep _ o' e)) (Nat.lt_irrefl _)
  have hCL : H2.objs.size ≠ L := Ne.symm (Nat.ne_of_lt O1.F.ns.lt)
  have F2 : Fr h₀ L h₂ m := O1.F.keeps up2
  have N2 : News h₀ L h₂ ((H2.objs.size, oC) :: (h₁.objs.size, oD) :: T) := fun p hp => by
    rcases List.mem_cons.mp hp with rfl | hp
    · exact ⟨heC, hCL, hC₀⟩
    · exact ⟨up2 _ _ (O1.N p hp).1, (O1.N p hp).2⟩
  have O2 := O1.newI (o := oC) (h' := h₂) (tk := tk₁ + ([] : List (Str × Value)).length) F2 N2
  have s2 := stp_newI O1 (o := oC)
  have HL2 := HL1.next Y O2 s2
  simp only at HL2 s2 O2
  have s12 := st0.trans (s1.trans s2 HL.O.sub) H₀.O.sub
  have offT1 : ∀ p ∈ T, p.1 ≠ h₁.objs.size := HL.O.offT
  have offT2 : ∀ p ∈ (h₁.objs.size, oD) :: T, p.1 ≠ H2.objs.size := O1.offT
  have off₀ : ∀ p ∈ T₀, p.1 ≠ I ∧ p.1 ≠ h₁.objs.size ∧ p.1 ≠ H2.objs.size := fun p hp => by
    obtain ⟨o, ho⟩ := st0.addr HL.O p hp
    exact ⟨offI p hp, offT1 (p.1, o) ho, offT2 (p.1, o) (.tail _ ho)⟩
  obtain ⟨oI, hIT⟩ := HL.IT
  have hID : I ≠ h₁.objs.size := offT1 (I, oI) hIT
  have hIC : I ≠ H2.objs.size := offT2 (I, oI) (.tail _ hIT)
  have hDC : h₁.objs.size ≠ H2.objs.size := offT2 (h₁.objs.size, oD) (.head _)
  generalize hCa : H2.objs.size = Ca at *
  generalize hDa : h₁.objs.size = Da at *
  have hdT0 : ∃ nn, (Da, ({ cls := .type "list", data := .seq ([] : List Value).toArray nn } : Obj)) ∈ (Ca, oC) :: (Da, oD) :: T := by rw [← hO2]; exact ⟨_, .tail _ (.head _)⟩
  obtain ⟨nn0, hdT0⟩ := hdT0
  have J0 : CInv C h₀ L m T₀ X₀ μ₀ T X { s₀ with heap := h₂, toks := tk₁ + ([] : List (Str × Value)).length } ((Ca, oC) :: (Da, oD) :: T) (Ca :: Da :: X) μ I St' Kk 0 Ca Da [] 0 :=
    ⟨HL2, s12, ⟨fun a o h => h.step (s1.trans s2 HL.O.sub) HL.O.sub⟩, ⟨oC, _, .head _, hoC⟩, .head _, fun q => by
      have := O1.sub _ q
      rcases List.mem_cons.mp this with h | h
      · exact hDC h.symm
      · obtain ⟨o, ho⟩ := HL.O.xin _ h; exact offT2 (_, o) (.tail _ ho) rfl,
      ⟨[], nn0, hdT0, .nil, Nat.le_refl _⟩, .tail _ (.head _), fun q => by
      obtain ⟨o, ho⟩ := HL.O.xin _ (HL.O.sub _ q); exact offT1 (_, o) ho rfl⟩
  have loop : ∀ s₃ : Shared, s₃ = { s₀ with heap := h₂, toks := tk₁ + ([] : List (Str × Value)).length } →
      codeAny (model C.prog C.w) A (.compLoop (.ListComp e [⟨.Name x px, iter, ifs, 0⟩] sc pos) 0 (.ref I) (.ref Da) (compEnvC sc (clGo env sc.names []) Ca env))
        (RR (.ref Da) Ca) s₃ := by
    rintro s₃ rfl
    obtain ⟨Inv, hInv⟩ : ∃ Inv : Nat → Shared → Prop, ∀ kk s', Inv kk s' ↔ ∃ h' tk T' X' μ' i acc, s' = { s₀ with heap := h', toks := tk } ∧ i ≤ xs.length ∧ kk = xs.length + 1 - i ∧ CInv C h₀ L m T₀ X₀ μ₀ T X { s₀ with heap := h', toks := tk } T' X' μ' I St' Kk i Ca Da acc i ∧
        compGo (fun x μ k => vcAnd Γ cond (loc ++ [x]) μ k) (fun x μ k => vcE Γ elt (loc ++ [x]) μ k) (xs.drop i) acc μ' fun ys μ2 => k (.list ys) μ2 := ⟨_, fun _ _ => .rfl⟩
    refine codeAny_compLoop_tests Inv ?_ (xs.length + 1) ((hInv _ _).mpr ⟨h₂, _, _, _, μ, 0, [], rfl, Nat.zero_le _, rfl, J0, v⟩)
    intro kk s' hI
    obtain ⟨h', tk, T', X', μ', i, acc, rfl, hi, rfl, J, vv⟩ := (hInv _ _).mp hI
    by_cases hlt : i < xs.length
    · rw [List.drop_eq_getElem_cons hlt] at vv
      refine J.H.turn Y hlt fun w h₃ tk₃ o₃ hPw HL3 => ?_
      have l3 := lift_turn (o := o₃) J.H
      obtain ⟨oC₃, m₃, hcT, hcN⟩ := J.cT
      obtain ⟨vs, nn, hdT, hdR, hdl⟩ := J.dT
      have hcT3 : (Ca, oC₃) ∈ updT T' I o₃ := mem_updT hcT (Ne.symm hIC)
      have hrd : Rd C.B T' X' w xs[i] := Rd.lift J.lf _ _ (hP i w _ hPw (List.getElem?_eq_getElem hlt))
      refine wpAny_assign_Name (wpAny_storeName_local (lookup_relabel_local c4) (hcN.ns (HL3.O.N _ hcT3).1) (fun h₄ hn₄ hs₄ => ?_) (by simp [compEnvC, relabel, c1]))
      obtain ⟨oC₄, heC₄, hoC₄⟩ := LCg.ns_obj hn₄
      have HL4 := HL3.change (tk := tk₃ + 1) Y hcT3 J.cX J.cM hIC hs₄ heC₄
      have l4 := lift_upd (C := C) (T := updT T' I o₃) (o := oC₄) J.cX
      have l34 : Lift C.B T' X' (updT (updT T' I o₃) Ca oC₄) X' := ⟨fun a o h => l4.has _ _ (l3.has _ _ h)⟩
      have J4 : CInv C h₀ L m T₀ X₀ μ₀ T X { s₀ with heap := h₄, toks := tk₃ + 1 } (updT (updT T' I o₃) Ca oC₄) X' μ' I St' Kk (i + 1) Ca Da acc i :=
        ⟨HL4, (J.st.upd (fun p hp => (off₀ p hp).1)).upd (fun p hp => (off₀ p hp).2.2), ⟨fun a o h => l34.has _ _ (J.lf.has _ _ h)⟩, ⟨oC₄, _, .head _, hoC₄⟩, J.cX, J.cM, ⟨vs, nn, mem_updT (mem_updT hdT (Ne.symm hID)) hDC, Rds.lift l34 _ _ hdR, hdl⟩, J.dX, J.dM⟩
      have V4 : EnvOk C L (compEnvC sc (clGo env sc.names []) Ca env) ⟨hideN x S.nm ++ [x], sc⟩ m (updT (updT T' I o₃) Ca oC₄) X' (keys μ') (loc ++ [xs[i]]) :=
        EnvOk.comp (H₀.V.step J4.st H₀.O.sub) okc (.head _) J.cM hoC₄ (by simp) (Rd.lift l34 _ _ hrd)
      have H4 : St C n ⟨hideN x S.nm ++ [x], sc⟩ A A₀ fenv outer h₀ L (compEnvC sc (clGo env sc.names []) Ca env) { s₀ with heap := h₄, toks := tk₃ + 1 } m (updT (updT T' I o₃) Ca oC₄) X' μ' (loc ++ [xs[i]]) := ⟨H₀.F, V4, HL4.O⟩
      refine tests_sound hc hlen ok2 H4 (kc := fun b μ1 => ∃ t, b = .bool t ∧ (t = true → vcE Γ elt (loc ++ [xs[i]]) μ1 fun v μ2 => compGo (fun x μ k => vcAnd Γ cond (loc ++ [x]) μ k) (fun x μ k => vcE Γ elt (loc ++ [x]) μ k) (xs.drop (i + 1)) (acc ++ [v]) μ2 fun ys μ2 => k (.list ys) μ2) ∧ (t = false → compGo (fun x μ k => vcAnd Γ cond (loc ++ [x]) μ k) (fun x μ k => vcE Γ elt (loc ++ [x]) μ k) (xs.drop (i + 1)) acc μ1 fun ys μ2 => k (.list ys) μ2)) vv fun bb h₅ tk₅ T₅ X₅ μ₅ O₅ st₅ k₅ => ?_
      obtain ⟨t, e5, kt, kf⟩ := k₅
      cases e5
      have J5 := J4.next Y H₀.O.sub O₅ st₅
      cases bb with
      | false =>
        simp only [Bool.false_eq_true, if_false]
        obtain ⟨vs, nn, h1, h2, h3⟩ := J5.dT
        exact ⟨xs.length + 1 - (i + 1), sub_lt hlt, (hInv _ _).mpr ⟨h₅, tk₅, T₅, X₅, μ₅, i + 1, acc, rfl, hlt, rfl, ⟨J5.H, J5.st, J5.lf, J5.cT, J5.cX, J5.cM, ⟨vs, nn, h1, h2, Nat.le_succ_of_le h3⟩, J5.dX, J5.dM⟩, kf rfl⟩⟩
      | true =>
        simp only [if_true]
        refine he _ e ok1 A A₀ fenv outer h₀ L _ _ m T₅ X₅ μ₅ _ _ _ _ (H4.next O₅ st₅) (kt rfl) fun y dy h₆ tk₆ T₆ X₆ μ₆ O₆ st₆ r₆ k₆ => ?_
        have J6 := J5.next Y H₀.O.sub O₆ st₆
        obtain ⟨vs, nn, g1, g2, g3⟩ := J6.dT
        refine append_at (J6.H.O.N _ g1).1 (fun h₇ hs₇ hg₇ => ?_) (by rw [List.size_toArray]; (clear hdl hDa hCa hlen; lia))
        have HL7 := J6.H.change (tk := tk₆) Y g1 J6.dX J6.dM hID hs₇ hg₇
        have l7 := lift_upd (C := C) (T := T₆) (o := { cls := .type "list", data := .seq (vs.toArray.push y) (nn + 1) }) J6.dX
        obtain ⟨oC₆, m₆, g4, g5⟩ := J6.cT
        have e7 : vs.toArray.push y = (vs ++ [y]).toArray := by simp
        refine ⟨xs.length + 1 - (i + 1), sub_lt hlt, (hInv _ _).mpr ⟨h₇, tk₆, updT T₆ Da _, X₆, μ₆, i + 1, acc ++ [dy], rfl, hlt, rfl,
          ⟨HL7, J6.st.upd (fun p hp => (off₀ p hp).2.1), ⟨fun a o h => l7.has _ _ (J6.lf.has _ _ h)⟩, ⟨oC₆, m₆, mem_updT g4 (Ne.symm hDC), g5⟩, J6.cX, J6.cM, ⟨vs ++ [y], nn + 1, ?_, (Rds.lift l7 _ _ g2).append (.one (Rd.lift l7 _ _ r₆)), by rw [List.length_append]; exact Nat.succ_le_succ g3⟩, J6.dX, J6.dM⟩, k₆⟩⟩
        rw [← e7]; exact .head _
    · obtain rfl : i = xs.length := Nat.le_antisymm hi (Nat.not_lt.mp hlt)
      rw [List.drop_length] at vv
      refine J.H.done Y fun h₃ tk₃ O₃ => ?_
      obtain ⟨oC₃, m₃, hcT, hcN⟩ := J.cT
      obtain ⟨vs, nn, hdT, hdR, hdl⟩ := J.dT
      have hcT3 : (Ca, oC₃) ∈ outT [I] T' := mem_outT.mpr ⟨hcT, by simpa using Ne.symm hIC⟩
      have hdT3 := mem_outT.mpr (⟨hdT, by simpa using Ne.symm hID⟩ : _ ∧ Da ∉ [I])
      have hcX3 : Ca ∈ outX ([I] ++ []) X' := mem_outX.mpr ⟨J.cX, by simpa using Ne.symm hIC⟩
      have hdX3 : Da ∈ outX ([I] ++ []) X' := mem_outX.mpr ⟨J.dX, by simpa using Ne.symm hID⟩
      have l3 : Lift C.B T' X' (outT [I] T') (outX ([I] ++ []) X') := lift_out (by simpa using J.H.IX) (by simp)
      have st3 := Stp.out H₀.O J.st (Z := [I]) (Y := []) fun p hp => by simpa using (off₀ p hp).1
      exact PP Ca Da h₃ tk₃ _ _ μ' acc oC₃ m₃ vs nn O₃ st3 hcT3 hcN hcX3 J.cM hdT3 (Rds.lift l3 _ _ hdR) hdX3 J.dM hDC (fun p hp => (off₀ p hp).2) vv
  obtain ⟨fp, W⟩ := Y.W
  exact codeAny_compStart_list (loop _ rfl) (W.self 0 _ _ _ HL2.st (loop _ rfl))
theorem CFin.plain {k : KE} {Q : Value → Shared → Prop} (H₀ : Ok C h₀ L s₀ m T₀ X₀ μ₀) (PP : PE C h₀ L s₀ m T₀ X₀ μ₀ k Q) : CFin C h₀ L s₀ m T₀ X₀ μ₀ k (fun acc Ca => compPost (model C.prog C.w) A E none Q acc Ca) := by
  intro Ca Da h₃ tk₃ T X μ acc oC m₃ vs nn O₃ st3 hcT3 hcN hcX3 hcM hdT3 hdR hdX3 hdM hDC off hk
  refine ⟨m₃, hcN.ns (O₃.N _ hcT3).1, fun h₄ hs₄ => ?_⟩
  have hNc := O₃.N _ hcT3
  have O4 := O₃.out (Z := [Ca]) (Y := [Da]) (h' := h₄) (tk := tk₃) (m' := m) (by simpa using hcX3) (by simpa using hdX3) (fun a ha => by
        rcases List.mem_append.mp ha with h | h
        · rw [List.mem_singleton.mp h]; exact hcM
        · rw [List.mem_singleton.mp h]; exact hdM) (O₃.F.change hs₄ hNc.2.1 hNc.2.2) fun p hp hz => (hs₄.2 _ (by simpa using hz)).trans (O₃.N p hp).1
  have l4 : Lift C.B T X (outT [Ca] T) (outX ([Ca] ++ [Da]) X) := lift_out (by simpa using hcX3) (by simpa using Or.inr hdX3)
  have st4 := Stp.out H₀ st3 (Z := [Ca]) (Y := [Da]) fun p hp => by simpa using ⟨(off p hp).2, (off p hp).1⟩
  refine PP (.ref Da) (.list acc) h₄ tk₃ _ _ μ O4 st4 ?_ hk
  exact ⟨Da, _, vs, nn, rfl, .inr ⟨mem_outT.mpr ⟨hdT3, by simpa using hDC⟩, fun q => (mem_outX.mp q).2 (by simp)⟩, rfl, rfl, Rds.lift l4 _ _ hdR⟩
theorem compSc_names {S : Sc} {x : Str} {sc : Scope} (okc : compSc S x sc = true) : ∀ y ∈ sc.names, y.2 = .local → sc.names.lookup y.1 = some .local := fun y hy e => by
  obtain ⟨c1, c2, c3, c4, c5, c6⟩ := compSc_of okc
  rcases c5 y hy with ⟨_, e' | e'⟩ | ⟨e', _⟩ | e'
  · rw [e']; exact c4
  · rw [e'.1]; exact e'.2
  · rw [e'] at e; cases e
  · rw [e'] at e; cases e
theorem compSc_clos {S : Sc} {x : Str} {sc : Scope} {Mu : List Addr} (okc : compSc S x sc = true) (V : EnvOk C L env S m T X Mu loc) : closureFor sc env = pure (clGo env sc.names []) := by
  obtain ⟨c1, c2, c3, c4, c5, c6⟩ := compSc_of okc
  refine closureFor_clGo fun y hy e => ?_
  rcases c5 y hy with ⟨e', _⟩ | ⟨_, e'⟩ | e'
  · rw [e'] at e; cases e
  · exact (V.cell _ e').2
  · rw [e'] at e; cases e
theorem SE_comp {elt it : ME} {cond : List ME} (he : SE C Γ n elt) (hi : SE C Γ n it) (hc : ∀ e ∈ cond, SB C Γ n e) : SE C Γ n (.comp elt it cond) := by
  intro S pe ok A A₀ fenv outer h₀ L env s m T X μ loc Q E k H v P
  obtain ⟨e, x, px, iter, ifs, sc, pos, rfl, hs, ok1, okc, ok2, ok3, hl⟩ := ok_comp ok
  rw [eval_ListComp]
  refine wpAny_comprehension_free (use := none) rfl (foldedSet_of hs env) (compSc_clos okc H.V) (compSc_of okc).1 (compSc_names okc) ?_
  refine src_plain hi ok1 H v fun I P' St Kk xs h' tk T' X' μ' Y HL st off hP hz hk => ?_
  exact comp_core he hc okc ok2 ok3 hl H Y HL st off hP hz hk (CFin.plain H.O P)
theorem SE_compR (G : Good C Γ n) {elt : ME} {rg cond : List ME} (he : SE C Γ n elt) (hr : SL C Γ n rg) (hc : ∀ e ∈ cond, SB C Γ n e) : SE C Γ n (.compR elt rg cond) := by
  intro S pe ok A A₀ fenv outer h₀ L env s m T X μ loc Q E k H v P
  obtain ⟨e, x, px, f, p0, args, p1, ifs, sc, pos, rfl, hf, hg, ok1, hne, okc, ok2, ok3, hl⟩ := ok_compR ok
  rw [eval_ListComp]
  refine wpAny_comprehension_free (use := none) rfl (fun _ => rfl) (compSc_clos okc H.V) (compSc_of okc).1 (compSc_names okc) ?_
  refine src_range G hr hf hg ok1 hne H v fun I P' St Kk xs h' tk T' X' μ' Y HL st off hP hz hk => ?_
  exact comp_core he hc okc ok2 ok3 hl H Y HL st off hP hz hk (CFin.plain H.O P)
end
section
end
section
variable {C : Cx} {Γ : Cfg} {n : Nat}
mutual
theorem allE (G : Good C Γ n) : ∀ e : ME, SE C Γ n e ∧ SB C Γ n e
  | .var i => by
    have a := SE_var (C := C) (Γ := Γ) (n := n) (i := i)
    exact ⟨a, SB_plain (fun S pe ok env whole => by obtain ⟨_, _, rfl, _⟩ := ok_var ok; rfl) a⟩
  | .gl j => by
    have a := SE_gl (j := j) G
    exact ⟨a, SB_plain (fun S pe ok env whole => by obtain ⟨_, _, _, rfl, _⟩ := ok_gl ok; rfl) a⟩
  | .int j => by
    have a := SE_int (C := C) (Γ := Γ) (n := n) (i := j)
    exact ⟨a, SB_plain (fun S pe ok env whole => by obtain ⟨_, _, rfl⟩ := ok_int ok; rfl) a⟩
  | .str j => by
    have a := SE_str (C := C) (Γ := Γ) (n := n) (i := j)
    exact ⟨a, SB_plain (fun S pe ok env whole => by obtain ⟨_, _, rfl⟩ := ok_str ok; rfl) a⟩
  | .none => by
    have a := SE_none (C := C) (Γ := Γ) (n := n)
    exact ⟨a, SB_plain (fun S pe ok env whole => by obtain ⟨_, _, rfl⟩ := ok_none ok; rfl) a⟩
  | .bool j => by
    have a := SE_bool (C := C) (Γ := Γ) (n := n) (b := j)
    exact ⟨a, SB_plain (fun S pe ok env whole => by obtain ⟨_, _, rfl⟩ := ok_bool ok; rfl) a⟩
  | .bin o x y => by
    have hx := allE G x
    have hy := allE G y
    have a := SE_bin (o := o) hx.1 hy.1
    exact ⟨a, SB_plain (fun S pe ok env whole => by obtain ⟨_, _, _, rfl, _⟩ := ok_bin ok; rfl) a⟩
  | .neg x => by
    have hx := allE G x
    have a := SE_neg hx.1
    exact ⟨a, SB_plain (fun S pe ok env whole => by obtain ⟨_, _, rfl, _⟩ := ok_neg ok; rfl) a⟩
  | .cmp o x y => by
    have hx := allE G x
    have hy := allE G y
    have a := SE_cmp (o := o) hx.1 hy.1
    exact ⟨a, SB_cmp hx.1 hy.1⟩
  | .neE x => by
    have hx := allE G x
    have a := SE_neE hx.1
    exact ⟨a, SB_neE hx.1⟩
  | .chain o p x y z => by
    have hx := allE G x
    have hy := allE G y
    have hz := allE G z
    have a := SE_chain (o := o) (p := p) hx.1 hy.1 hz.1
    exact ⟨a, SB_chain hx.1 hy.1 hz.1⟩
  | .isN g x => by
    have hx := allE G x
    have a := SE_isN (ng := g) hx.1
    exact ⟨a, SB_isN hx.1⟩
  | .isIn g x y => by
    have hx := allE G x
    have hy := allE G y
    have a := SE_isIn (ng := g) hx.1 hy.1
    exact ⟨a, SB_isIn hx.1 hy.1⟩
  | .not x => by
    have hx := allE G x
    have a := SE_not hx.1
    exact ⟨a, SB_not hx.2⟩
  | .ands es => by
    have les := allL G es
    have a := SE_ands les.2.1
    exact ⟨a, SB_ands les.2.2⟩
  | .ors es => by
    have les := allL G es
    have a := SE_ors les.2.1
    exact ⟨a, SB_ors les.2.2⟩
  | .ite x y z => by
    have hx := allE G x
    have hy := allE G y
    have hz := allE G z
    have a := SE_ite hx.2 hy.1 hz.1
    exact ⟨a, SB_ite hx.2 hy.2 hz.2⟩
  | .call j es => by
    have les := allL G es
    have a := SE_call (j := j) G les.1
    exact ⟨a, SB_plain (fun S pe ok env whole => by obtain ⟨_, _, _, _, _, rfl, _⟩ := ok_call ok; rfl) a⟩
  | .mcall j x es => by
    have hx := allE G x
    have les := allL G es
    have a := SE_mcall (j := j) G hx.1 les.1
    exact ⟨a, SB_plain (fun S pe ok env whole => by obtain ⟨_, _, _, _, _, _, rfl, _⟩ := ok_mcall ok; rfl) a⟩
  | .attr j x => by
    have hx := allE G x
    have a := SE_attr (j := j) G hx.1
    exact ⟨a, SB_plain (fun S pe ok env whole => by obtain ⟨_, _, _, _, rfl, _⟩ := ok_attr ok; rfl) a⟩
  | .bi b es => by
    have les := allL G es
    have a := SE_bi (b := b) G les.1
    exact ⟨a, SB_plain (fun S pe ok env whole => by obtain ⟨_, _, _, _, rfl, _⟩ := ok_bi ok; rfl) a⟩
  | .meth mk x es => by
    have hx := allE G x
    have les := allL G es
    have a := SE_meth (mk := mk) hx.1 les.1
    exact ⟨a, SB_plain (fun S pe ok env whole => by obtain ⟨_, _, _, _, _, rfl, _⟩ := ok_meth ok; rfl) a⟩
  | .list es => by
    have les := allL G es
    have a := SE_list les.1
    exact ⟨a, SB_plain (fun S pe ok env whole => by obtain ⟨_, _, rfl, _⟩ := ok_list ok; rfl) a⟩
  | .rep x y => by
    have hx := allE G x
    have hy := allE G y
    have a := SE_rep hx.1 hy.1
    exact ⟨a, SB_plain (fun S pe ok env whole => by obtain ⟨_, _, _, _, rfl, _⟩ := ok_rep ok; rfl) a⟩
  | .tup es => by
    have les := allL G es
    have a := SE_tup les.1
    exact ⟨a, SB_plain (fun S pe ok env whole => by obtain ⟨_, _, _, rfl, _⟩ := ok_tup ok; rfl) a⟩
  | .idx x y => by
    have hx := allE G x
    have hy := allE G y
    have a := SE_idx hx.1 hy.1
    exact ⟨a, SB_plain (fun S pe ok env whole => by obtain ⟨_, _, _, rfl, _⟩ := ok_idx ok; rfl) a⟩
  | .slc x lo hi => by
    have hx := allE G x
    have llo := allL G lo
    have lhi := allL G hi
    have a := SE_slc hx.1 llo.2.1 lhi.2.1
    exact ⟨a, SB_plain (fun S pe ok env whole => by obtain ⟨_, _, _, _, _, rfl, _⟩ := ok_slc ok; rfl) a⟩
  | .rev x => by
    have hx := allE G x
    have a := SE_rev hx.1
    exact ⟨a, SB_plain (fun S pe ok env whole => by obtain ⟨_, _, _, _, _, _, rfl, _⟩ := ok_rev ok; rfl) a⟩
  | .comp x y c => by
    have hx := allE G x
    have hy := allE G y
    have lc := allL G c
    have a := SE_comp hx.1 hy.1 lc.2.2
    exact ⟨a, SB_plain (fun S pe ok env whole => by obtain ⟨_, _, _, _, _, _, _, rfl, _⟩ := ok_comp ok; rfl) a⟩
  | .compR x r c => by
    have hx := allE G x
    have lr := allL G r
    have lc := allL G c
    have a := SE_compR G hx.1 lr.1 lc.2.2
    exact ⟨a, SB_plain (fun S pe ok env whole => by obtain ⟨_, _, _, _, _, _, _, _, _, _, rfl, _⟩ := ok_compR ok; rfl) a⟩
theorem allL (G : Good C Γ n) : ∀ es : List ME, SL C Γ n es ∧ (∀ e ∈ es, SE C Γ n e) ∧ (∀ e ∈ es, SB C Γ n e)
  | [] => ⟨SL_nil, fun e h => absurd h List.not_mem_nil, fun e h => absurd h List.not_mem_nil⟩
  | e :: es => by
    have a := allE G e
    have b := allL G es
    refine ⟨SL_cons a.1 b.1, fun x hx => ?_, fun x hx => ?_⟩
    · rcases List.mem_cons.mp hx with rfl | h
      · exact a.1
      · exact b.2.1 x h
    · rcases List.mem_cons.mp hx with rfl | h
      · exact a.2
      · exact b.2.2 x h
end
end
noncomputable abbrev cs (env : Env) : List Addr := env.cells.map (·.2)
structure StS (C : Cx) (n : Nat) (S : Sc) (A A₀ : Around) (fenv : Env) (outer : List Env) (h₀ : Heap) (L : Addr) (env : Env) (s : Shared) (m : Str → Option Value) (T : Led) (X : List Addr) (μ : Mem) (loc : List D) : Prop extends St C n S A A₀ fenv outer h₀ L env s m T X μ loc where
  sc : env.scope = S.sc
  lc : env.locals = L
  nd : ∀ (i j : Nat) x, S.nm[i]? = some x → S.nm[j]? = some x → i = j
  cells : ∀ c ∈ cs env, c ∈ X ∧ c ∉ keys μ ∧ ∃ o v, (c, o) ∈ T ∧ o.data = .cell v
  cinj : ∀ x y c, env.cells.lookup x = some c → env.cells.lookup y = some c → x = y
theorem lookup_cs {env : Env} {x : Str} {c : Addr} (h : env.cells.lookup x = some c) : c ∈ cs env := List.mem_map_of_mem (f := (·.2)) (lookup_mem h)
section
variable {C : Cx} {Γ : Cfg} {n : Nat} {S : Sc} {A A₀ : Around} {fenv : Env} {outer : List Env} {h₀ : Heap} {L : Addr} {env : Env} {s s' : Shared} {m m' : Str → Option Value} {T T' : Led} {X X' : List Addr} {μ μ' : Mem} {loc loc' : List D} {E : Value → Shared → Prop}
theorem Stp.more2 {Z : List Addr} (st : Stp T X (keys μ) T' X' (keys μ')) : Stp T X (Z ++ keys μ) T' X' (Z ++ keys μ') :=
  ⟨fun p hp hn => st.keep p hp fun q => hn (List.mem_append_right _ q), st.xs, st.xnew, fun p hp hx => by
    rcases List.mem_append.mp hx with h | h
    · exact List.mem_append_left _ h
    · exact List.mem_append_right _ (st.mnew p hp h), fun a ha => by
    rcases List.mem_append.mp ha with h | h
    · exact List.mem_append_left _ h
    · exact List.mem_append_right _ (st.mks a h)⟩
theorem StS.subC (H : StS C n S A A₀ fenv outer h₀ L env s m T X μ loc) : ∀ a ∈ cs env ++ keys μ, a ∈ X := fun a ha => by
  rcases List.mem_append.mp ha with h | h
  · exact (H.cells a h).1
  · exact H.O.sub a h
theorem StS.next (H : StS C n S A A₀ fenv outer h₀ L env s m T X μ loc) (O : Ok C h₀ L s' m T' X' μ') (st : Stp T X (keys μ) T' X' (keys μ')) : StS C n S A A₀ fenv outer h₀ L env s' m T' X' μ' loc :=
  ⟨H.toSt.next O st, H.sc, H.lc, H.nd, fun c hc => by
    obtain ⟨h1, h2, o, v, h3, h4⟩ := H.cells c hc
    exact ⟨st.xs _ h1, fun q => h2 (st.mnew _ h3 q), o, v, st.keep _ h3 h2, h4⟩, H.cinj⟩
noncomputable def PS (C : Cx) (n : Nat) (S : Sc) (A A₀ : Around) (fenv : Env) (outer : List Env) (h₀ : Heap) (L : Addr) (env : Env) (s : Shared) (T : Led) (X : List Addr) (μ : Mem) (k : KS) (Q : Flow → Shared → Prop) : Prop :=
  ∀ o m' h' tk T' X' μ' loc', StS C n S A A₀ fenv outer h₀ L env { s with heap := h', toks := tk } m' T' X' μ' loc' → Stp T X (cs env ++ keys μ) T' X' (cs env ++ keys μ') → k o loc' μ' →
    match o with
    | .next => Q .next { s with heap := h', toks := tk }
    | .ret d => ∀ v, Rd C.B T' X' v d → Q (.ret v) { s with heap := h', toks := tk }
theorem PS.next {k : KS} {Q : Flow → Shared → Prop} (hs : ∀ a ∈ cs env ++ keys μ, a ∈ X) (P : PS C n S A A₀ fenv outer h₀ L env s T X μ k Q) {h' : Heap} {tk : Nat} (st : Stp T X (cs env ++ keys μ) T' X' (cs env ++ keys μ')) : PS C n S A A₀ fenv outer h₀ L env { s with heap := h', toks := tk } T' X' μ' k Q :=
  fun o m' h'' tk' T'' X'' μ'' loc' H st' hk => P o m' h'' tk' T'' X'' μ'' loc' H (st.trans st' hs) hk
theorem EnvOk.setLoc {i : Nat} {x : Str} {v : Value} {d : D} {Mu : List Addr} (V : EnvOk C L env S m T X Mu loc) (nd : ∀ (i j : Nat) x, S.nm[i]? = some x → S.nm[j]? = some x → i = j) (hi : S.nm[i]? = some x)
    (l : Lift C.B T X T' X') (hn : NmOk L env m' T' Mu x v) (r : Rd C.B T' X' v d) (ho : ∀ y v, y ≠ x → NmOk L env m T Mu y v → NmOk L env m' T' Mu y v) : EnvOk C L env S m' T' X' Mu (loc.set i d) := by
  refine ⟨V.kind, V.gs, V.bs, by rw [List.length_set]; exact V.len, V.gl, fun j y d' hj hv hl hd => ?_, V.cell⟩
  by_cases q : j = i
  · subst q
    rw [hi] at hj; cases hj
    have hlt : j < loc.length := by
      have := (List.getElem?_eq_some_iff.mp hi).1
      rw [V.len]; exact this
    rw [List.getElem?_set_self hlt] at hl
    cases hl
    exact ⟨v, hn, r⟩
  · rw [List.getElem?_set_ne (Ne.symm q)] at hl
    obtain ⟨w, hw, rw'⟩ := V.rd j y d' hj hv hl hd
    exact ⟨w, ho y w (fun e => q (nd j i x (e ▸ hj) hi)) hw, Rd.lift l _ _ rw'⟩
theorem StS.store (H : StS C n S A A₀ fenv outer h₀ L env s m T X μ loc) {i : Nat} {x : Str} {v : Value} {d : D} (hi : S.nm[i]? = some x) (hst : S.sc.names.lookup x = some .local ∨ S.sc.names.lookup x = some .cell) (r : Rd C.B T X v d) {Q : Unit → Shared → Prop}
    (c : ∀ m' h' tk T', StS C n S A A₀ fenv outer h₀ L env { s with heap := h', toks := tk } m' T' X μ (loc.set i d) → Stp T X (cs env ++ keys μ) T' X (cs env ++ keys μ) → (∀ p ∈ T, p.1 ∉ cs env → p ∈ T') → Lift C.B T X T' X → Q () { s with heap := h', toks := tk }) :
    wpAny (model C.prog C.w) A (storeName env x v) Q E s := by
  have hk := H.V.kind
  rcases hst with hst | hst
  · have hkx : env.kindOf x = some .local := by unfold Env.kindOf; rw [H.sc]; exact hst
    refine wpAny_storeName_local hkx (H.lc ▸ H.O.F.ns) (fun h' hn hs => ?_) (by rw [hk]; rfl)
    rw [H.lc] at hn hs
    have O' : Ok C h₀ L { s with heap := h', toks := s.toks + 1 } (fun y => if y = x then some v else m y) T X μ := ⟨H.O.F.set hn hs, H.O.N.set hs, H.O.M, H.O.sub, H.O.xin, H.O.st⟩
    refine c _ h' _ T ⟨⟨H.F, H.V.setLoc H.nd hi ⟨fun _ _ h => h⟩ (.loc hkx H.lc (by simp)) r fun y w hy hw => ?_, O'⟩, H.sc, H.lc, H.nd, H.cells, H.cinj⟩ (.refl ..) (fun p hp _ => hp) ⟨fun _ _ h => h⟩
    cases hw with
    | loc a b c => exact .loc a b (by simp [hy, c])
    | own o m₂ a b c d e => exact .own o m₂ a b c d e
    | cell c o a b d e f => exact .cell c o a b d e f
  · obtain ⟨hkx, cc, hcc⟩ := H.V.cell x hst
    have hin := lookup_cs hcc
    obtain ⟨hX, hM, o, v₀, hT, hd⟩ := H.cells cc hin
    refine wpAny_storeName_cell hk hkx hcc ⟨o, (H.O.N _ hT).1, hd⟩ fun h' hv hs => ?_
    obtain ⟨o', ho', hd'⟩ := hv
    have O' := H.O.change (tk := s.toks) hT hX hM hs ho'
    have l : Lift C.B T X (updT T cc o') X := lift_upd hX
    refine c m h' s.toks (updT T cc o') ⟨⟨H.F, H.V.setLoc H.nd hi l (.cell cc o' hkx hcc (.head _) hM hd') (Rd.lift l _ _ r) fun y w hy hw => ?_, O'⟩, H.sc, H.lc, H.nd, fun a ha => ?_, H.cinj⟩
      ⟨fun p hp hn => mem_updT hp fun e => hn (List.mem_append_left _ (e ▸ hin)), fun _ h => h, fun _ _ h => h, fun _ _ h => h, fun _ h => h⟩ (fun p hp hn => mem_updT hp fun e => hn (e ▸ hin)) l
    · cases hw with
      | loc a b c => exact .loc a b c
      | own o m₂ a b c d e =>
        refine .own o m₂ a (mem_updT b fun e' => ?_) c d e
        have h1 := (H.O.N _ hT).2.1
        simp only at e' h1
        rw [H.lc] at e'; exact h1 e'.symm
      | cell c2 o2 a b d e f =>
        exact .cell c2 o2 a b (mem_updT d fun e' => hy (H.cinj y x c2 b (by simp only at e'; rw [e']; exact hcc))) e f
    · obtain ⟨h1, h2, o2, v2, h3, h4⟩ := H.cells a ha
      by_cases q : a = cc
      · subst q; exact ⟨h1, h2, o', _, .head _, hd'⟩
      · exact ⟨h1, h2, o2, v2, mem_updT h3 q, h4⟩
noncomputable def tgt (S : Sc) (i : Nat) (e : PySem.Expr) : Bool := onName e fun x => onSome S.nm[i]? fun y => sb x y && (isL (lkS x S.sc.names) || isC (lkS x S.sc.names))
theorem tgt_of {i : Nat} {e : PySem.Expr} (h : tgt S i e = true) : ∃ x p, e = .Name x p ∧ S.nm[i]? = some x ∧ (S.sc.names.lookup x = some .local ∨ S.sc.names.lookup x = some .cell) := by
  obtain ⟨x, p, rfl, w⟩ := onName_inv h
  obtain ⟨y, hy, w⟩ := onSome_inv w
  obtain ⟨w1, w2⟩ := an2 w
  obtain rfl := sb_eq w1
  rw [lkS_eq, Bool.or_eq_true] at w2
  exact ⟨x, p, rfl, hy, w2.imp isL_of isC_of⟩
noncomputable def tgts (S : Sc) : List Nat → List PySem.Expr → Bool
  | [], es => es.isEmpty
  | i :: is, [] => false
  | i :: is, e :: es => tgt S i e && tgts S is es
theorem StS.assignAll : ∀ (is : List Nat) (ts : List PySem.Expr) (vs : List Value) (ds : List D) {s : Shared} {m : Str → Option Value} {T : Led} {loc : List D} {Q : Unit → Shared → Prop}, tgts S is ts = true → StS C n S A A₀ fenv outer h₀ L env s m T X μ loc → Rds C.B T X vs ds → ds.length = is.length →
    (∀ m' h' tk T', StS C n S A A₀ fenv outer h₀ L env { s with heap := h', toks := tk } m' T' X μ (setVs loc is ds) → Stp T X (cs env ++ keys μ) T' X (cs env ++ keys μ) → (∀ p ∈ T, p.1 ∉ cs env → p ∈ T') → Lift C.B T X T' X → Q () { s with heap := h', toks := tk }) →
    wpAny (model C.prog C.w) A (assignInOrder ((assignEach ts env).map (·.2)) vs) Q E s
  | [], ts, vs, ds, s, m, T, loc, Q, ok, H, r, hl, c => by
    cases ts with
    | cons _ _ => cases ok
    | nil =>
      cases ds with
      | cons _ _ => simp at hl
      | nil => exact assignInOrder_nil (c m s.heap s.toks T H (.refl ..) (fun _ h _ => h) ⟨fun _ _ h => h⟩)
  | i :: is, ts, vs, ds, s, m, T, loc, Q, ok, H, r, hl, c => by
    cases ts with
    | nil => cases ok
    | cons t ts =>
      cases ds with
      | nil => simp at hl
      | cons d ds =>
        have ok := an2 ok
        obtain ⟨x, p, rfl, hi, hst⟩ := tgt_of ok.1
        obtain ⟨v, vs', rfl, r1, r2⟩ := r
        show wpAny (model C.prog C.w) A (assignInOrder (assign (.Name x p) env :: (assignEach ts env).map (·.2)) (v :: vs')) Q E s
        refine assignInOrder_cons (wpAny_assign_Name (H.store hi hst r1 fun m1 h1 tk1 T1 H1 st1 kp1 l1 => ?_))
        refine StS.assignAll is ts vs' ds ok.2 H1 (Rds.lift l1 _ _ r2) (by simpa using hl) fun m2 h2 tk2 T2 H2 st2 kp2 l2 => ?_
        exact c m2 h2 tk2 T2 H2 (st1.trans st2 H.subC) (fun p hp hn => kp2 p (kp1 p hp hn) hn) ⟨fun a o h => l2.has _ _ (l1.has _ _ h)⟩
theorem tgts_len (env : Env) : ∀ {is : List Nat} {ts : List PySem.Expr}, tgts S is ts = true → (assignEach ts env).length = is.length ∧ (assignEach ts env).findIdx? (·.1) = none
  | [], [], _ => ⟨rfl, rfl⟩
  | i :: is, t :: ts, h => by
    have h := an2 h
    obtain ⟨x, p, rfl, _⟩ := tgt_of h.1
    obtain ⟨a, b⟩ := tgts_len env h.2
    have e : assignEach (.Name x p :: ts) env = (false, assign (.Name x p) env) :: assignEach ts env := rfl
    rw [e]
    exact ⟨by rw [List.length_cons, a]; rfl, by rw [List.findIdx?_cons]; simp [b]⟩
  | [], _ :: _, h => by cases h
  | _ :: _, [], h => by cases h
theorem draw_sound {I : Addr} {P : Nat → Value → Prop} {St' : Nat → Heap → Prop} {Kk : Led} {xs : List D} (Y : Itr C A I xs.length P St' Kk) : ∀ (k i : Nat) {s : Shared} {T : Led} {Q : List Value → Shared → Prop}, LSt C h₀ L s m T X μ I St' Kk i → i + k = xs.length → (∀ (i : Nat) v d, P i v → xs[i]? = some d → Rd C.B T X v d) →
    (∀ vs h' tk T', LSt C h₀ L { s with heap := h', toks := tk } m T' X μ I St' Kk xs.length → (∀ p ∈ T, p.1 ≠ I → p ∈ T') → Lift C.B T X T' X → Rds C.B T' X vs (xs.drop i) → Q vs { s with heap := h', toks := tk }) → wpAny (model C.prog C.w) A (draw (.ref I) k) Q E s
  | 0, i, s, T, Q, H, hk, hP, c => by
    show wpAny _ A (pure []) Q E s
    have hi : i = xs.length := by lia
    subst hi
    exact wpAny_pure (c [] s.heap s.toks T H (fun _ h _ => h) ⟨fun _ _ h => h⟩ (by rw [List.drop_length]; exact .nil))
  | k + 1, i, s, T, Q, H, hk, hP, c => by
    have hlt : i < xs.length := by lia
    show wpAny _ A (pyNext (.ref I) >>= _) Q E s
    refine wpAny_bind (H.turn Y hlt fun v h' tk o hPv H' => ?_)
    have l := lift_turn (o := o) H
    refine wpAny_bind (wpAny_holding (draw_sound Y k (i + 1) H' (by lia) (fun i v d a b => Rd.lift l _ _ (hP i v d a b)) fun vs h2 tk2 T2 H2 kp l2 r => wpAny_pure ?_))
    refine c (v :: vs) h2 tk2 T2 H2 (fun p hp hn => kp p (mem_updT hp hn) hn) ⟨fun a o h => l2.has _ _ (l.has _ _ h)⟩ ?_
    rw [List.drop_eq_getElem_cons hlt]
    exact .cons (Rd.lift l2 _ _ (Rd.lift l _ _ (hP i v _ hPv (List.getElem?_eq_getElem hlt)))) r
theorem unpack_sound (hh : A.handled = none) (O : Ok C h₀ L s m T X μ) {va : Value} {d : D} {xs : List D} {Q : List Value → Shared → Prop} (r : Rd C.B T X va d) (hd : d = .tup xs ∨ d = .list xs) (hz : xs.length ≤ sizeLine)
    (c : ∀ vs h' tk T' X', Ok C h₀ L { s with heap := h', toks := tk } m T' X' μ → Stp T X (keys μ) T' X' (keys μ) → Rds C.B T' X' vs xs → Q vs { s with heap := h', toks := tk }) :
    wpAny (model C.prog C.w) A (unpackItems va xs.length none) Q E s := by
  unfold unpackItems
  have key : wpAny (model C.prog C.w) A (notIterableAtAll va) (fun b s' => b = false ∧ s' = s) E s := by
    unfold notIterableAtAll
    rcases hd with rfl | rfl
    · obtain ⟨a, vs, rfl, hl, hr⟩ := rd_tup O r
      exact wpAny_bind (wpAny_specialOf hl.typeIs PyProof.Rows.slot_tuple_iter.lookup (wpAny_pure ⟨rfl, rfl⟩))
    · obtain ⟨a, vs, rfl, hl, hr⟩ := rd_list O r
      exact wpAny_bind (wpAny_specialOf hl.typeIs slot_list_iter.lookup (wpAny_pure ⟨rfl, rfl⟩))
  refine wpAny_bind (wpAny_mono key (fun b s' h => ?_) fun _ _ e => e)
  obtain ⟨rfl, rfl⟩ := h
  simp only [Bool.false_eq_true, if_false]
  refine wpAny_bind (wpAny_holding (pyIter_sound (k := fun xs' μ' => xs' = xs ∧ μ' = μ) hh O r (by rcases hd with rfl | rfl <;> rfl) hz ⟨rfl, rfl⟩ fun I P St' Kk xs' h1 tk1 T1 X1 μ1 Y H1 st1 off hP hz1 hk => ?_))
  obtain ⟨rfl, rfl⟩ := hk
  refine wpAny_bind (wpAny_holding (draw_sound Y xs'.length 0 H1 (by lia) hP fun vs h2 tk2 T2 H2 kp l2 rs => ?_))
  rw [List.drop_zero] at rs
  rw [if_neg (by rw [rs.length]; exact Nat.lt_irrefl _)]
  refine wpAny_bind (wpAny_holding (H2.done Y fun h3 tk3 O3 => ?_))
  simp only [Option.isSome_none, Bool.false_eq_true, if_false]
  have st2 : Stp T X (keys μ1) T2 X1 (keys μ1) := ⟨fun p hp hn => kp p (st1.keep p hp hn) (off p hp), st1.xs, st1.xnew, fun _ _ h => h, fun _ h => h⟩
  have l3 : Lift C.B T2 X1 (outT [I] T2) (outX ([I] ++ []) X1) := lift_out (by simpa using H2.IX) (by simp)
  exact wpAny_pure (c vs h3 tk3 _ _ O3 (Stp.out O st2 (Z := [I]) (Y := []) fun p hp => by simpa using off p hp) (Rds.lift l3 _ _ rs))
end
noncomputable def notLC : PySem.Expr → Bool
  | .ListComp .. => false
  | .SetComp .. => false
  | .DictComp .. => false
  | _ => true
theorem swapsWith_no {v : PySem.Expr} (h : notLC v = true) (t : Option PySem.Expr) (l : Nat) (env : Env) : swapsWith v t l env = pure false := by
  cases v <;> first | rfl | cases h
noncomputable def notCA : PySem.Expr → Bool
  | .Tuple vs _ _ => !(vs.all (constantsAlone 8))
  | _ => true
theorem swap_key {x1 x2 : Str} (b1 b2 b4 b5 : Bool) (nm : List Str) (k : Nat) (u : Sem (Option (List Str))) (h5 : b5 = false) (hn : nm = [x1, x2] ∨ (nm.length != k) = true) :
    (if b1 = true then (pure none : Sem (Option (List Str))) else if b2 = true then pure none else if (nm.length != k || nm.eraseDups.length != nm.length) = true then pure none else if b4 = true then pure none else if b5 = true then u else pure (some nm)) = pure none ∨
    (if b1 = true then (pure none : Sem (Option (List Str))) else if b2 = true then pure none else if (nm.length != k || nm.eraseDups.length != nm.length) = true then pure none else if b4 = true then pure none else if b5 = true then u else pure (some nm)) = pure (some [x1, x2]) := by
  subst h5
  cases b1
  · cases b2
    · cases q : (nm.length != k || nm.eraseDups.length != nm.length)
      · cases b4
        · rcases hn with rfl | hn
          · exact .inr rfl
          · rw [hn] at q; cases q
        · exact .inl rfl
      · exact .inl rfl
    · exact .inl rfl
  · exact .inl rfl
theorem fm2 {x1 x2 : Str} (f : PySem.Expr → Option Str) (a b : PySem.Expr) (ha : f a = some x1 ∨ f a = none) (hb : f b = some x2 ∨ f b = none) : List.filterMap f [a, b] = [x1, x2] ∨ ((List.filterMap f [a, b]).length != 2) = true := by
  rcases ha with ha | ha <;> rcases hb with hb | hb <;> simp [List.filterMap_cons, ha, hb]
theorem if_or {x : Str} (c : Bool) : (if c = true then some x else none) = some x ∨ (if c = true then some x else none) = none := by cases c <;> simp
theorem swap_cases {x1 x2 : Str} {p1 p2 tp : Pos} {k : Nat} {value : PySem.Expr} (h : notCA value = true) (env : Env) :
    swappedStores [.Tuple [.Name x1 p1, .Name x2 p2] k tp] value env = pure none ∨ swappedStores [.Tuple [.Name x1 p1, .Name x2 p2] k tp] value env = pure (some [x1, x2]) := by
  cases value with
  | Tuple vs k' pp =>
    unfold notCA at h
    rw [Bool.not_eq_true'] at h
    refine swap_key (x1 := x1) (x2 := x2) _ _ _ _ _ _ _ h ?_
    exact fm2 _ _ _ (if_or _) (if_or _)
  | _ => exact .inl rfl
noncomputable def usedOk (S : Sc) (t v : PySem.Expr) : Bool := onName t fun x => onLC v fun _ _ sc => isL (lkS x S.sc.names) && ((t.pos.line == v.pos.line) && allB (fun y : Str × NameKind => match y.2 with
      | .local => !sb y.1 x
      | .cell => !sb y.1 x
      | _ => true) sc.names)
section
variable {e : PySem.Stmt}
noncomputable def onAsg (e : PySem.Stmt) (k : List PySem.Expr → PySem.Expr → Bool) : Bool := gd (Nat.beq e.ctorIdx 5) fun h => PySem.Stmt.Assign.elim e (Nat.eq_of_beq_eq_true h) fun t v p => k t v
theorem onAsg_inv {k : List PySem.Expr → PySem.Expr → Bool} (h : onAsg e k = true) : ∃ t v p, e = .Assign t v p ∧ k t v = true := by
  obtain ⟨a, w⟩ := gd_inv h
  exact PySem.Stmt.Assign.elim (motive_2 := fun e => ∀ a, PySem.Stmt.Assign.elim e a (fun t v p => k t v) = true → ∃ t v p, e = .Assign t v p ∧ k t v = true) e (Nat.eq_of_beq_eq_true a) (fun t v p _ w => ⟨t, v, p, rfl, w⟩) (Nat.eq_of_beq_eq_true a) w
noncomputable def onRet (e : PySem.Stmt) (k : Option PySem.Expr → Bool) : Bool := gd (Nat.beq e.ctorIdx 3) fun h => PySem.Stmt.Return.elim e (Nat.eq_of_beq_eq_true h) fun v p => k v
theorem onRet_inv {k : Option PySem.Expr → Bool} (h : onRet e k = true) : ∃ v p, e = .Return v p ∧ k v = true := by
  obtain ⟨a, w⟩ := gd_inv h
  exact PySem.Stmt.Return.elim (motive_2 := fun e => ∀ a, PySem.Stmt.Return.elim e a (fun v p => k v) = true → ∃ v p, e = .Return v p ∧ k v = true) e (Nat.eq_of_beq_eq_true a) (fun v p _ w => ⟨v, p, rfl, w⟩) (Nat.eq_of_beq_eq_true a) w
noncomputable def onEx (e : PySem.Stmt) (k : PySem.Expr → Bool) : Bool := gd (Nat.beq e.ctorIdx 24) fun h => PySem.Stmt.Expr.elim e (Nat.eq_of_beq_eq_true h) fun v p => k v
theorem onEx_inv {k : PySem.Expr → Bool} (h : onEx e k = true) : ∃ v p, e = .Expr v p ∧ k v = true := by
  obtain ⟨a, w⟩ := gd_inv h
  exact PySem.Stmt.Expr.elim (motive_2 := fun e => ∀ a, PySem.Stmt.Expr.elim e a (fun v p => k v) = true → ∃ v p, e = .Expr v p ∧ k v = true) e (Nat.eq_of_beq_eq_true a) (fun v p _ w => ⟨v, p, rfl, w⟩) (Nat.eq_of_beq_eq_true a) w
noncomputable def onIfS (e : PySem.Stmt) (k : PySem.Expr → List PySem.Stmt → List PySem.Stmt → Bool) : Bool := gd (Nat.beq e.ctorIdx 12) fun h => PySem.Stmt.If.elim e (Nat.eq_of_beq_eq_true h) fun t b o p => k t b o
theorem onIfS_inv {k : PySem.Expr → List PySem.Stmt → List PySem.Stmt → Bool} (h : onIfS e k = true) : ∃ t b o p, e = .If t b o p ∧ k t b o = true := by
  obtain ⟨a, w⟩ := gd_inv h
  exact PySem.Stmt.If.elim (motive_2 := fun e => ∀ a, PySem.Stmt.If.elim e a (fun t b o p => k t b o) = true → ∃ t b o p, e = .If t b o p ∧ k t b o = true) e (Nat.eq_of_beq_eq_true a) (fun t b o p _ w => ⟨t, b, o, p, rfl, w⟩) (Nat.eq_of_beq_eq_true a) w
noncomputable def onWhl (e : PySem.Stmt) (k : PySem.Expr → List PySem.Stmt → List PySem.Stmt → Bool) : Bool := gd (Nat.beq e.ctorIdx 11) fun h => PySem.Stmt.While.elim e (Nat.eq_of_beq_eq_true h) fun t b o p => k t b o
theorem onWhl_inv {k : PySem.Expr → List PySem.Stmt → List PySem.Stmt → Bool} (h : onWhl e k = true) : ∃ t b o p, e = .While t b o p ∧ k t b o = true := by
  obtain ⟨a, w⟩ := gd_inv h
  exact PySem.Stmt.While.elim (motive_2 := fun e => ∀ a, PySem.Stmt.While.elim e a (fun t b o p => k t b o) = true → ∃ t b o p, e = .While t b o p ∧ k t b o = true) e (Nat.eq_of_beq_eq_true a) (fun t b o p _ w => ⟨t, b, o, p, rfl, w⟩) (Nat.eq_of_beq_eq_true a) w
noncomputable def onFor (e : PySem.Stmt) (k : PySem.Expr → PySem.Expr → List PySem.Stmt → List PySem.Stmt → Bool) : Bool := gd (Nat.beq e.ctorIdx 9) fun h => PySem.Stmt.For.elim e (Nat.eq_of_beq_eq_true h) fun t i b o p => k t i b o
theorem onFor_inv {k : PySem.Expr → PySem.Expr → List PySem.Stmt → List PySem.Stmt → Bool} (h : onFor e k = true) : ∃ t i b o p, e = .For t i b o p ∧ k t i b o = true := by
  obtain ⟨a, w⟩ := gd_inv h
  exact PySem.Stmt.For.elim (motive_2 := fun e => ∀ a, PySem.Stmt.For.elim e a (fun t i b o p => k t i b o) = true → ∃ t i b o p, e = .For t i b o p ∧ k t i b o = true) e (Nat.eq_of_beq_eq_true a) (fun t i b o p _ w => ⟨t, i, b, o, p, rfl, w⟩) (Nat.eq_of_beq_eq_true a) w
end
noncomputable def isCo (e : ME) : Bool := Nat.beq e.ctorIdx 28 || Nat.beq e.ctorIdx 29
noncomputable def okT (S : Sc) (t : List Nat) (e : PySem.Expr) : Bool := match t with
  | [] => false
  | i :: r => (match r with
    | [] => tgt S i e
    | j :: is => onTup e fun ts => tgts S (i :: j :: is) ts && Nat.ble is.length 20)
section
variable (Γ : Cfg)
mutual
noncomputable def okS (S : Sc) : MS → PySem.Stmt → Bool
  | .set i e, st => onAsg st fun ts v => on1 ts fun t => tgt S i t && (okE Γ S e v && (notLC v || (usedOk S t v && isCo e)))
  | .setT is e, st => on2 is fun i j => onAsg st fun ts v => on1 ts fun t => onTup t fun ab => on2 ab fun a b => tgt S i a && (tgt S j b && (!Nat.beq i j && (okE Γ S e v && (notLC v && notCA v))))
  | .newL i, st => onAsg st fun ts v => on1 ts fun t => tgt S i t && isNilL v
  | .setI o i v, st => onAsg st fun ts ve => on1 ts fun t => onSub t fun oe ie => okE Γ S o oe && (okE Γ S i ie && (okE Γ S v ve && notLC ve))
  | .ret e, st => onRet st fun v => onSome v fun v => okE Γ S e v
  | .ex e, st => onEx st fun v => okE Γ S e v && notLC v
  | .fail, _ => true
  | .ite c t f, st => onIfS st fun x b o => okE Γ S c x && (okSs S t b && okSs S f o)
  | .whl c b, st => onWhl st fun x y o => o.isEmpty && (okE Γ S c x && okSs S b y)
  | .fore t it b, st => onFor st fun x i y o => o.isEmpty && (notSet i && (okE Γ S it i && (okSs S b y && okT S t x)))
  | .forr i rg b, st => onFor st fun x j y o => o.isEmpty && onFn j fun f args => tgt S i x && (sb f (Str.ofString "range") && (isG S f && (okEs Γ S rg args && (!args.isEmpty && okSs S b y))))
noncomputable def okSs (S : Sc) : List MS → List PySem.Stmt → Bool
  | [], ss => ss.isEmpty
  | m :: ms, [] => false
  | m :: ms, s :: ss => okS S m s && okSs S ms ss
end
end
section
variable {Γ : Cfg} {S : Sc} {st : PySem.Stmt}
theorem okS_set {i : Nat} {e : ME} (h : okS Γ S (.set i e) st = true) : ∃ t v p, st = .Assign [t] v p ∧ tgt S i t = true ∧ okE Γ S e v = true ∧ (notLC v = true ∨ (usedOk S t v && isCo e) = true) := by
  obtain ⟨ts, v, p, rfl, w1⟩ := onAsg_inv h
  obtain ⟨t, rfl, w2⟩ := on1_inv w1
  obtain ⟨w3, w4⟩ := an2 w2
  obtain ⟨w5, w6⟩ := an2 w4
  exact ⟨t, v, p, rfl, w3, w5, (Bool.or_eq_true _ _).mp w6⟩
theorem okS_setT {is : List Nat} {e : ME} (h : okS Γ S (.setT is e) st = true) : ∃ i j a b k tp v p, is = [i, j] ∧ st = .Assign [.Tuple [a, b] k tp] v p ∧ tgt S i a = true ∧ tgt S j b = true ∧ Nat.beq i j = false ∧ okE Γ S e v = true ∧ notLC v = true ∧ notCA v = true := by
  obtain ⟨i, j, rfl, w⟩ := on2_inv h
  obtain ⟨ts, v, p, rfl, w1⟩ := onAsg_inv w
  obtain ⟨t, rfl, w2⟩ := on1_inv w1
  obtain ⟨ab, k, q, rfl, w3⟩ := onTup_inv w2
  obtain ⟨a, b, rfl, w4⟩ := on2_inv w3
  obtain ⟨o1, w5⟩ := an2 w4
  obtain ⟨o2, w6⟩ := an2 w5
  obtain ⟨o3, w7⟩ := an2 w6
  obtain ⟨o4, w8⟩ := an2 w7
  exact ⟨i, j, a, b, k, q, v, p, rfl, rfl, o1, o2, Bool.not_eq_true' _ ▸ o3, o4, an2 w8⟩
theorem okS_newL {i : Nat} (h : okS Γ S (.newL i) st = true) : ∃ t q p, st = .Assign [t] (.List [] q) p ∧ tgt S i t = true := by
  obtain ⟨ts, v, p, rfl, w1⟩ := onAsg_inv h
  obtain ⟨t, rfl, w2⟩ := on1_inv w1
  obtain ⟨w3, w4⟩ := an2 w2
  obtain ⟨q, rfl⟩ := isNilL_inv w4
  exact ⟨t, q, p, rfl, w3⟩
theorem okS_setI {o i v : ME} (h : okS Γ S (.setI o i v) st = true) : ∃ oe ie q ve p, st = .Assign [.Subscript oe ie q] ve p ∧ okE Γ S o oe = true ∧ okE Γ S i ie = true ∧ okE Γ S v ve = true ∧ notLC ve = true := by
  obtain ⟨ts, v, p, rfl, w1⟩ := onAsg_inv h
  obtain ⟨t, rfl, w2⟩ := on1_inv w1
  obtain ⟨o, i, q, rfl, w3⟩ := onSub_inv w2
  obtain ⟨w4, w5⟩ := an2 w3
  obtain ⟨w6, w7⟩ := an2 w5
  exact ⟨o, i, q, v, p, rfl, w4, w6, an2 w7⟩
theorem okS_ret {e : ME} (h : okS Γ S (.ret e) st = true) : ∃ v p, st = .Return (some v) p ∧ okE Γ S e v = true := by
  obtain ⟨v, p, rfl, w1⟩ := onRet_inv h
  obtain ⟨v, rfl, w2⟩ := onSome_inv w1
  exact ⟨v, p, rfl, w2⟩
theorem okS_ex {e : ME} (h : okS Γ S (.ex e) st = true) : ∃ v p, st = .Expr v p ∧ okE Γ S e v = true ∧ notLC v = true := by
  obtain ⟨v, p, rfl, w1⟩ := onEx_inv h
  exact ⟨v, p, rfl, an2 w1⟩
theorem okS_ite {c : ME} {t f : List MS} (h : okS Γ S (.ite c t f) st = true) : ∃ test body orelse p, st = .If test body orelse p ∧ okE Γ S c test = true ∧ okSs Γ S t body = true ∧ okSs Γ S f orelse = true := by
  obtain ⟨x, b, o, p, rfl, w1⟩ := onIfS_inv h
  obtain ⟨w2, w3⟩ := an2 w1
  exact ⟨x, b, o, p, rfl, w2, an2 w3⟩
theorem okS_whl {c : ME} {b : List MS} (h : okS Γ S (.whl c b) st = true) : ∃ test body p, st = .While test body [] p ∧ okE Γ S c test = true ∧ okSs Γ S b body = true := by
  obtain ⟨x, b, o, p, rfl, w1⟩ := onWhl_inv h
  obtain ⟨w2, w3⟩ := an2 w1
  obtain rfl := List.isEmpty_iff.mp w2
  exact ⟨x, b, p, rfl, an2 w3⟩
theorem okS_fore {t : List Nat} {it : ME} {b : List MS} (h : okS Γ S (.fore t it b) st = true) : ∃ target iter body p, st = .For target iter body [] p ∧ notSet iter = true ∧ okE Γ S it iter = true ∧ okSs Γ S b body = true ∧ ((∃ i, t = [i] ∧ tgt S i target = true) ∨ ∃ i j is ts k q, t = i :: j :: is ∧ target = .Tuple ts k q ∧ tgts S (i :: j :: is) ts = true ∧ is.length ≤ 20) := by
  obtain ⟨x, i, b, o, p, rfl, w1⟩ := onFor_inv h
  obtain ⟨w2, w3⟩ := an2 w1
  obtain rfl := List.isEmpty_iff.mp w2
  obtain ⟨w4, w5⟩ := an2 w3
  obtain ⟨w6, w7⟩ := an2 w5
  obtain ⟨w8, w9⟩ := an2 w7
  refine ⟨x, i, b, p, rfl, w4, w6, w8, ?_⟩
  cases t with
  | nil => cases w9
  | cons i r =>
    cases r with
    | nil => exact .inl ⟨i, rfl, w9⟩
    | cons j is =>
      obtain ⟨ts, k, q, rfl, w⟩ := onTup_inv w9
      obtain ⟨u1, u2⟩ := an2 w
      exact .inr ⟨i, j, is, ts, k, q, rfl, rfl, u1, Nat.le_of_ble_eq_true u2⟩
theorem okS_forr {i : Nat} {rg : List ME} {b : List MS} (h : okS Γ S (.forr i rg b) st = true) : ∃ target f p0 args p1 body p, st = .For target (.Call (.Name f p0) args [] p1) body [] p ∧ tgt S i target = true ∧ f = Str.ofString "range" ∧ isG S f = true ∧ okEs Γ S rg args = true ∧ args ≠ [] ∧ okSs Γ S b body = true := by
  obtain ⟨x, j, b, o, p, rfl, w1⟩ := onFor_inv h
  obtain ⟨w2, w3⟩ := an2 w1
  obtain rfl := List.isEmpty_iff.mp w2
  obtain ⟨f, q, a, p1, rfl, w4⟩ := onFn_inv w3
  obtain ⟨o1, w5⟩ := an2 w4
  obtain ⟨o2, w6⟩ := an2 w5
  obtain ⟨o3, w7⟩ := an2 w6
  obtain ⟨o4, w8⟩ := an2 w7
  obtain ⟨o5, o6⟩ := an2 w8
  exact ⟨x, f, q, a, p1, b, p, rfl, o1, sb_eq o2, o3, o4, ne_of o5, o6⟩
end
noncomputable def SS (C : Cx) (Γ : Cfg) (n : Nat) (ms : MS) : Prop := ∀ (S : Sc) (st : PySem.Stmt), okS Γ S ms st = true → ∀ A A₀ fenv outer h₀ L env s m T X μ loc Q E k,
  StS C n S A A₀ fenv outer h₀ L env s m T X μ loc → vcS Γ ms loc μ k → PS C n S A A₀ fenv outer h₀ L env s T X μ k Q → wpAny (model C.prog C.w) A (exec st env) Q E s
noncomputable def SSs (C : Cx) (Γ : Cfg) (n : Nat) (ms : List MS) : Prop := ∀ (S : Sc) (ss : List PySem.Stmt), okSs Γ S ms ss = true → ∀ A A₀ fenv outer h₀ L env s m T X μ loc Q E k,
  StS C n S A A₀ fenv outer h₀ L env s m T X μ loc → vcSs Γ ms loc μ k → PS C n S A A₀ fenv outer h₀ L env s T X μ k Q → wpAny (model C.prog C.w) A (execs ss env) Q E s
section
variable {C : Cx} {Γ : Cfg} {n : Nat}
theorem PS.ofPE {S A A₀ fenv outer h₀ L env s m T X μ loc} {k : KE} {ks : KS} {Q : Value → Shared → Prop} {Qs : Flow → Shared → Prop} (H : StS C n S A A₀ fenv outer h₀ L env s m T X μ loc) (P : PS C n S A A₀ fenv outer h₀ L env s T X μ ks Qs)
    (c : ∀ v d h' tk T' X' μ', StS C n S A A₀ fenv outer h₀ L env { s with heap := h', toks := tk } m T' X' μ' loc → PS C n S A A₀ fenv outer h₀ L env { s with heap := h', toks := tk } T' X' μ' ks Qs → Rd C.B T' X' v d → k d μ' → Q v { s with heap := h', toks := tk }) :
    PE C h₀ L s m T X μ k Q := fun v d h' tk T' X' μ' O' st r hk => c v d h' tk T' X' μ' (H.next O' st) (PS.next H.subC P st.more2) r hk
theorem PS.fin {S A A₀ fenv outer h₀ L env s m T X μ loc} {ks : KS} {Qs : Flow → Shared → Prop} (H : StS C n S A A₀ fenv outer h₀ L env s m T X μ loc) (P : PS C n S A A₀ fenv outer h₀ L env s T X μ ks Qs) (hk : ks .next loc μ) : Qs .next s :=
  P .next m s.heap s.toks T X μ loc H (.refl ..) hk
theorem SS_ret {e : ME} (he : SE C Γ n e) : SS C Γ n (.ret e) := by
  intro S st ok A A₀ fenv outer h₀ L env s m T X μ loc Q E k H v P
  obtain ⟨v₀, pos, rfl, ok1⟩ := okS_ret ok
  refine wpAny_Return_some (he S _ ok1 A A₀ fenv outer h₀ L env s m T X μ loc _ E _ H.toSt v (PS.ofPE H P fun va d h' tk T' X' μ' H' P' r hk => ?_))
  exact P' (.ret d) m h' tk T' X' μ' loc H' (.refl ..) hk va r
theorem SS_ex {e : ME} (he : SE C Γ n e) : SS C Γ n (.ex e) := by
  intro S st ok A A₀ fenv outer h₀ L env s m T X μ loc Q E k H v P
  obtain ⟨v₀, pos, rfl, ok1, ok2⟩ := okS_ex ok
  refine wpAny_Expr_any (he S _ ok1 A A₀ fenv outer h₀ L env s m T X μ loc _ E _ H.toSt v (PS.ofPE H P fun va d h' tk T' X' μ' H' P' r hk => ?_)) (by unfold interactive; rw [H.V.kind]; rfl) (swapsWith_no ok2 _ _ _)
  cases d <;> first
    | exact hk.elim
    | exact PS.fin H' P' hk
theorem SS_fail : SS C Γ n .fail := by
  intro S st ok A A₀ fenv outer h₀ L env s m T X μ loc Q E k H v P
  exact v.elim
theorem SS_set {i : Nat} {e : ME} (he : SE C Γ n e) (S : Sc) {t v : PySem.Expr} {pos : Pos} (o1 : tgt S i t = true) (o2 : okE Γ S e v = true) (o3 : notLC v = true) {A A₀ fenv outer h₀ L env s m T X μ loc} {Q : Flow → Shared → Prop} {E : Value → Shared → Prop} {k : KS}
    (H : StS C n S A A₀ fenv outer h₀ L env s m T X μ loc) (vv : vcE Γ e loc μ fun d μ1 => k .next (loc.set i d) μ1) (P : PS C n S A A₀ fenv outer h₀ L env s T X μ k Q) : wpAny (model C.prog C.w) A (exec (.Assign [t] v pos) env) Q E s := by
  obtain ⟨x, p, rfl, hi, hst⟩ := tgt_of o1
  refine wpAny_Assign_Name (he S _ o2 A A₀ fenv outer h₀ L env s m T X μ loc _ E _ H.toSt vv (PS.ofPE H P fun va d h' tk T' X' μ' H' P' r hk => ?_)) (swapsWith_no o3 _ _ _)
  refine H'.store hi hst r fun m2 h2 tk2 T2 H2 st2 _ _ => ?_
  exact P' .next m2 h2 tk2 T2 X' μ' _ H2 st2 hk
theorem two_of {xs : List D} {k : List D → Prop} (h : onB (Nat.beq xs.length 2) (k xs)) : ∃ y z, xs = [y, z] ∧ k [y, z] := by
  cases xs with
  | nil => exact h.elim
  | cons y r =>
    cases r with
    | nil => exact h.elim
    | cons z r =>
      cases r with
      | nil => exact ⟨y, z, rfl, h⟩
      | cons _ _ => exact h.elim
theorem SS_setT {is : List Nat} {e : ME} (he : SE C Γ n e) : SS C Γ n (.setT is e) := by
  intro S st ok A A₀ fenv outer h₀ L env s m T X μ loc Q E k H v P
  obtain ⟨i, j, a, b, kk, tp, v₀, pos, rfl, rfl, o1, o2, o3, o4, o5, o6⟩ := okS_setT ok
  obtain ⟨x1, p1, rfl, hi1, hst1⟩ := tgt_of o1
  obtain ⟨x2, p2, rfl, hi2, hst2⟩ := tgt_of o2
  have hij : i ≠ j := fun q => by subst q; rw [Nat.beq_refl] at o3; cases o3
  have hsw : swapsWithSole [.Tuple [.Name x1 p1, .Name x2 p2] kk tp] v₀ pos.line env = pure false := (show swapsWith v₀ (some (.Tuple [.Name x1 p1, .Name x2 p2] kk tp)) pos.line env = pure false from swapsWith_no o5 _ _ _)
  have hd2 : ∀ {d : D} {μ' : Mem}, (onSeq d fun xs => onB (Nat.beq xs.length [i, j].length) (k .next (setVs loc [i, j] xs) μ')) → ∃ y z, (d = .tup [y, z] ∨ d = .list [y, z]) ∧ k .next ((loc.set i y).set j z) μ' := by
    intro d μ' h
    cases d with
    | tup xs => obtain ⟨y, z, rfl, hk⟩ := two_of (k := fun xs => k .next (setVs loc [i, j] xs) μ') h; exact ⟨y, z, .inl rfl, hk⟩
    | list xs => obtain ⟨y, z, rfl, hk⟩ := two_of (k := fun xs => k .next (setVs loc [i, j] xs) μ') h; exact ⟨y, z, .inr rfl, hk⟩
    | _ => exact h.elim
  rcases swap_cases (x1 := x1) (x2 := x2) (p1 := p1) (p2 := p2) (k := kk) (tp := tp) o6 env with hw | hw
  · refine Assign_Tuple (he S _ o4 A A₀ fenv outer h₀ L env s m T X μ loc _ E _ H.toSt v (PS.ofPE H P fun va d h' tk T' X' μ' H' P' r hk => ?_)) hsw hw
    obtain ⟨y, z, hd, hk⟩ := hd2 hk
    rw [arm_assign_Tuple]
    refine wpAny_bind (wpAny_standAt ?_)
    unfold unpack
    show wpAny _ A (do assignInOrder ((assignEach [.Name x1 p1, .Name x2 p2] env).map (·.2)) (← holding [va] (unpackItems va 2 none))) _ _ _
    refine wpAny_bind (wpAny_holding (unpack_sound (xs := [y, z]) H'.F.hh H'.O r hd (by show 2 ≤ sizeLine; rw [sizeLine_eq]; decide) fun vs h2 tk2 T2 X2 O2 st2 rs => ?_))
    have H2 := H'.next O2 st2
    refine StS.assignAll [i, j] [.Name x1 p1, .Name x2 p2] vs [y, z] (by show (tgt S i _ && (tgt S j _ && true)) = true; rw [o1, o2]; rfl) H2 rs rfl fun m3 h3 tk3 T3 H3 st3 _ _ => ?_
    exact P' .next m3 h3 tk3 T3 X2 μ' _ H3 (st2.more2.trans st3 H'.subC) hk
  · refine Assign_Tuple_swapped (he S _ o4 A A₀ fenv outer h₀ L env s m T X μ loc _ E _ H.toSt v (PS.ofPE H P fun va d h' tk T' X' μ' H' P' r hk => ?_)) hsw hw
    obtain ⟨y, z, hd, hk⟩ := hd2 hk
    show wpAny _ A (unpackItems va 2 none) _ _ _
    refine unpack_sound (xs := [y, z]) H'.F.hh H'.O r hd (by show 2 ≤ sizeLine; rw [sizeLine_eq]; decide) fun vs h2 tk2 T2 X2 O2 st2 rs => ?_
    have H2 := H'.next O2 st2
    obtain ⟨w1, w2, rfl, r1, r2⟩ := rds2 rs
    show wpAny _ A (assignInOrder [fun v => bindName env x2 v, fun v => bindName env x1 v] [w2, w1]) _ _ _
    refine assignInOrder_cons (wpAny_bindName (H2.store hi2 hst2 r2 fun m3 h3 tk3 T3 H3 st3 _ l3 => ?_))
    refine assignInOrder_cons (wpAny_bindName (H3.store hi1 hst1 (Rd.lift l3 _ _ r1) fun m4 h4 tk4 T4 H4 st4 _ _ => assignInOrder_nil ?_))
    rw [List.set_comm _ _ (Ne.symm hij)] at H4
    exact P' .next m4 h4 tk4 T4 X2 μ' _ H4 (st2.more2.trans (st3.trans st4 H2.subC) H'.subC) hk
theorem SS_newL {i : Nat} : SS C Γ n (.newL i) := by
  intro S st ok A A₀ fenv outer h₀ L env s m T X μ loc Q E k H v P
  obtain ⟨t, q, pos, rfl, ok1⟩ := okS_newL ok
  obtain ⟨x, p, rfl, hi, hst⟩ := tgt_of ok1
  refine wpAny_Assign_Name (List_ (spliced_nil (newList_N (L := L) H.O.F H.O.N (fun h2 F2 N2 => ?_) (by show 0 ≤ sizeLine; exact Nat.zero_le _)))) rfl
  have O2 := H.O.newO (tk := s.toks) (mo := .lst []) H.O.offT F2 N2 ⟨[], _, .head _, .nil, Nat.zero_le _⟩
  have st2 : Stp T X (keys μ) ((s.heap.objs.size, { cls := .type "list", data := .seq ([] : List Value).toArray }) :: T) (s.heap.objs.size :: X) (keys ((s.heap.objs.size, .lst []) :: μ)) := stp_new H.O.offT
  refine (H.next O2 st2).store hi hst (d := .mref s.heap.objs.size) to_mref fun m3 h3 tk3 T3 H3 st3 _ _ => ?_
  exact P .next m3 h3 tk3 T3 _ _ _ H3 (st2.more2.trans st3 H.subC) (v _ H.O.freshM)
theorem SS_ite {c : ME} {t f : List MS} (hc : SB C Γ n c) (ht : SSs C Γ n t) (hf : SSs C Γ n f) : SS C Γ n (.ite c t f) := by
  intro S st ok A A₀ fenv outer h₀ L env s m T X μ loc Q E k H v P
  obtain ⟨test, body, orelse, pos, rfl, ok1, ok2, ok3⟩ := okS_ite ok
  refine wpAny_If (hc S _ ok1 A A₀ fenv outer h₀ L env s m T X μ loc _ E _ H.toSt v (fun d μ h => ?_) fun b h' tk T' X' μ' O' st kk => ?_)
  · exact bl_of h
  · have P' := PS.next H.subC P (h' := h') (tk := tk) st.more2
    cases b with
    | true => exact ht S _ ok2 A A₀ fenv outer h₀ L env _ m T' X' μ' loc _ E _ (H.next O' st) (kk.1 rfl) P'
    | false => exact hf S _ ok3 A A₀ fenv outer h₀ L env _ m T' X' μ' loc _ E _ (H.next O' st) (kk.2 rfl) P'
theorem SSs_nil : SSs C Γ n [] := by
  intro S ss ok A A₀ fenv outer h₀ L env s m T X μ loc Q E k H v P
  cases ss with
  | cons _ _ => cases ok
  | nil =>
    exact wpAny_execs_nil (PS.fin H P v)
theorem SSs_cons {ms : MS} {r : List MS} (h1 : SS C Γ n ms) (h2 : SSs C Γ n r) : SSs C Γ n (ms :: r) := by
  intro S ss ok A A₀ fenv outer h₀ L env s m T X μ loc Q E k H v P
  cases ss with
  | nil => cases ok
  | cons st ss =>
    have ok := an2 ok
    refine wpAny_execs_cons (h1 S st ok.1 A A₀ fenv outer h₀ L env s m T X μ loc _ E _ H v fun o m' h' tk T' X' μ' loc' H' st' hk => ?_)
    cases o with
    | next => exact h2 S ss ok.2 A A₀ fenv outer h₀ L env _ m' T' X' μ' loc' _ E _ H' hk (PS.next H.subC P st')
    | ret d => exact fun va r => P (.ret d) m' h' tk T' X' μ' loc' H' st' hk va r
end
section
variable {B : Heap} {T : Led} {X : List Addr}
theorem any_keys {us : List (Int × Value)} {kvs : List (Int × D)} (h : us.map (·.1) = kvs.map (·.1)) (c : Int) : us.any (fun kv => kv.1 = c) = kvs.any (fun kv => kv.1 = c) := by
  have a : ∀ {α : Type} (l : List (Int × α)), l.any (fun kv => kv.1 = c) = (l.map (·.1)).any (fun k => k = c) := fun l => by rw [List.any_map]; rfl
  rw [a, a, h]
theorem stored_map : ∀ {us : List (Int × Value)} {kvs : List (Int × D)} (c : Int) {v : Value} {d : D}, us.map (·.1) = kvs.map (·.1) → Rds B T X (us.map (·.2)) (kvs.map (·.2)) → Rd B T X v d →
    (us.map (fun kv => if kv.1 = c then (kv.1, v) else kv)).map (·.1) = (kvs.map (fun kv => if kv.1 = c then (kv.1, d) else kv)).map (·.1) ∧ Rds B T X ((us.map (fun kv => if kv.1 = c then (kv.1, v) else kv)).map (·.2)) ((kvs.map (fun kv => if kv.1 = c then (kv.1, d) else kv)).map (·.2))
  | [], [], c, v, d, _, _, _ => ⟨rfl, .nil⟩
  | (a, w) :: us, (b, e) :: kvs, c, v, d, h, r, rv => by
    simp only [List.map_cons, List.cons.injEq] at h
    obtain ⟨rfl, h⟩ := h
    simp only [List.map_cons] at r
    obtain ⟨v', r', e', ra, rb⟩ := r
    cases e'
    obtain ⟨i1, i2⟩ := stored_map c h rb rv
    simp only [List.map_cons]
    by_cases q : a = c
    · simp only [q, if_true]
      exact ⟨by rw [i1], .cons rv i2⟩
    · simp only [q, if_false]
      exact ⟨by rw [i1], .cons ra i2⟩
  | [], _ :: _, _, _, _, h, _, _ => by simp at h
  | _ :: _, [], _, _, _, h, _, _ => by simp at h
theorem stored_rds {us : List (Int × Value)} {kvs : List (Int × D)} (c : Int) {v : Value} {d : D} (h : us.map (·.1) = kvs.map (·.1)) (r : Rds B T X (us.map (·.2)) (kvs.map (·.2))) (rv : Rd B T X v d) :
    (stored us c v).map (·.1) = (storeD kvs c d).map (·.1) ∧ Rds B T X ((stored us c v).map (·.2)) ((storeD kvs c d).map (·.2)) ∧ (stored us c v).length ≤ us.length + 1 := by
  unfold stored storeD
  rw [any_keys h c]
  by_cases q : kvs.any (fun kv => kv.1 = c) = true
  · rw [if_pos q, if_pos q]
    obtain ⟨a, b⟩ := stored_map c h r rv
    exact ⟨a, b, by simp⟩
  · rw [if_neg q, if_neg q]
    refine ⟨by rw [List.map_append, List.map_append, h]; rfl, ?_, by simp⟩
    rw [List.map_append, List.map_append]
    exact r.append (.one rv)
end
section
variable {C : Cx} {Γ : Cfg} {n : Nat}
theorem setItem_sound {A : Around} {h₀ : Heap} {L : Addr} {s : Shared} {m : Str → Option Value} {T : Led} {X : List Addr} {μ : Mem} {E : Value → Shared → Prop} {Q : Unit → Shared → Prop} (O : Ok C h₀ L s m T X μ) {va vi vx : Value} {d i x : D} {k : Mem → Prop}
    (ra : Rd C.B T X va d) (ri : Rd C.B T X vi i) (rx : Rd C.B T X vx x)
    (v : onRef d fun a => onInt i fun n => match (generalizing := false) lookM μ a with
          | some (.lst xs) => 0 ≤ n ∧ n < xs.length ∧ k (setM μ a (.lst (xs.set n.toNat x)))
          | some (.dict kvs) => kvs.length < 1000 ∧ k (setM μ a (.dict (storeD kvs n x)))
          | Option.none => False)
    (c : ∀ h' tk T' μ', Ok C h₀ L { s with heap := h', toks := tk } m T' X μ' → Stp T X (keys μ) T' X (keys μ') → k μ' → Q () { s with heap := h', toks := tk }) :
    wpAny (model C.prog C.w) A (setItem va vi vx) Q E s := by
  obtain ⟨a, rfl, v⟩ := inRef v ra
  obtain ⟨i, t, rfl, v⟩ := inInt v ri
  cases hM : lookM μ a with
  | none => rw [hM] at v; exact v.elim
  | some o =>
    rw [hM] at v
    cases o with
    | lst xs =>
        obtain ⟨vs, nn, hT, hr, hz, hX, hk⟩ := O.mut hM
        obtain ⟨h0, h1, hk'⟩ := v
        have hlen := hr.length
        rw [sizeLine_eq] at hz
        have hN := O.N _ hT
        refine ki_setAt hN.1 h0 (by lia) (by rw [List.size_toArray]; lia) ?_
        have hu := PySem.IsL.update hN.1 (·.setIfInBounds i.toNat vx)
        have e : vs.toArray.setIfInBounds i.toNat vx = (vs.set i.toNat vx).toArray := by simp
        rw [e] at hu
        have F' := O.F.change (Heap.SameBut.update s.heap a (Obj.mapSeq (·.setIfInBounds i.toNat vx))) hN.2.1 hN.2.2
        have N' : ∀ nn', (s.heap.update a (Obj.mapSeq (·.setIfInBounds i.toNat vx))).get? a = some (listOf (vs.set i.toNat vx).toArray nn') → News h₀ L (s.heap.update a (Obj.mapSeq (·.setIfInBounds i.toNat vx))) (updT T a (listOf (vs.set i.toNat vx).toArray nn')) := fun nn' hg p hp => by
          rcases of_updT hp with rfl | ⟨h, e⟩
          · exact ⟨hg, hN.2⟩
          · exact ⟨((Heap.SameBut.update s.heap a _).2 _ e).trans (O.N p h).1, (O.N p h).2⟩
        refine c _ s.toks _ _ (O.upd (xs := xs.set i.toNat x) hk F' (N' _ hu) (hr.set _ rx) (by rw [List.length_set, sizeLine_eq]; exact hz)) (stp_upd hk O.sub (keys_setM ..)) hk'
    | dict kvs =>
        obtain ⟨o, us, h1, h2, h3, h4, h5⟩ := O.M _ (lookM_mem hM)
        have hk : a ∈ keys μ := List.mem_map_of_mem (f := (·.1)) (lookM_mem hM)
        have hN := O.N _ h1
        have hX := O.sub _ hk
        refine wpAny_setItem_pairs (intKind_is _ _ _ _) (Heap.dictOf_iff.mpr ⟨o, hN.1, h2⟩) (fun h' hd' hs' => ?_) (by rw [sizeLine_eq]; (clear v; lia))
        obtain ⟨o', ho', hd''⟩ := Heap.dictOf_iff.mp hd'
        have F' := O.F.change hs' hN.2.1 hN.2.2
        have N' : News h₀ L h' (updT T a o') := fun p hp => by
          rcases of_updT hp with rfl | ⟨h, e⟩
          · exact ⟨ho', hN.2⟩
          · exact ⟨(hs'.2 _ e).trans (O.N p h).1, (O.N p h).2⟩
        have l := lift_upd (C := C) (T := T) (o := o') hX
        obtain ⟨g1, g2, g3⟩ := stored_rds i h3 h4 rx
        have hlen : us.length = kvs.length := by have := congrArg List.length h3; simpa using this
        refine c h' _ _ _ (O.updO (mo := .dict (storeD kvs i x)) hk F' N' ⟨o', stored us i vx, .head _, hd'', g1, Rds.lift l _ _ g2, by have := v.1; lia⟩) (stp_upd hk O.sub (keys_setM ..)) v.2
theorem SS_setI {o i v : ME} (ho : SE C Γ n o) (hi : SE C Γ n i) (hv : SE C Γ n v) : SS C Γ n (.setI o i v) := by
  intro S st ok A A₀ fenv outer h₀ L env s m T X μ loc Q E k H vv P
  obtain ⟨oe, ie, q, ve, p, rfl, o1, o2, o3, o4⟩ := okS_setI ok
  refine wpAny_Assign_Subscript (hv S _ o3 A A₀ fenv outer h₀ L env s m T X μ loc _ E _ H.toSt vv (PS.ofPE H P fun vx x h1 tk1 T1 X1 μ1 H1 P1 rx k1 => ?_)) (swapsWith_no o4 _ _ _)
  refine ho S _ o1 A A₀ fenv outer h₀ L env _ m T1 X1 μ1 loc _ E _ H1.toSt k1 (fun va d h2 tk2 T2 X2 μ2 O2 st2 ra k2 => ?_)
  have H2 := H1.next O2 st2
  have P2 := PS.next H1.subC P1 (h' := h2) (tk := tk2) st2.more2
  refine hi S _ o2 A A₀ fenv outer h₀ L env _ m T2 X2 μ2 loc _ E _ H2.toSt k2 (fun vi ii h3 tk3 T3 X3 μ3 O3 st3 ri k3 => ?_)
  have H3 := H2.next O3 st3
  have P3 := PS.next H2.subC P2 (h' := h3) (tk := tk3) st3.more2
  refine setItem_sound (k := fun μ => k .next loc μ) O3 (Rd.lift (st3.lift O2.sub) _ _ ra) ri (Rd.lift ((st2.trans st3 H1.O.sub).lift H1.O.sub) _ _ rx) k3 fun h4 tk4 T4 μ4 O4 st4 hk => ?_
  exact P3 .next m h4 tk4 T4 X3 μ4 loc (H3.next O4 st4) st4.more2 hk
theorem CFin.used {S A A₀ fenv outer h₀ L env s m T X μ loc} {Q : Flow → Shared → Prop} {E : Value → Shared → Prop} {k : KS} {i : Nat} {x : Str} {p : Pos} (H₀ : StS C n S A A₀ fenv outer h₀ L env s m T X μ loc) (P : PS C n S A A₀ fenv outer h₀ L env s T X μ k Q) (hi : S.nm[i]? = some x) (hst : S.sc.names.lookup x = some .local) :
    CFin C h₀ L s m T X μ (fun d μ1 => k .next (loc.set i d) μ1) (fun acc Ca => compPost (model C.prog C.w) A E (some (assign (.Name x p) env)) (fun _ s' => Q .next s') acc Ca) := by
  intro Ca Da h₃ tk₃ T3 X3 μ3 acc oC m₃ vs nn O₃ st3 hcT3 hcN hcX3 hcM hdT3 hdR hdX3 hdM hDC off hk
  have H3 := H₀.next O₃ st3
  have hkx : env.kindOf x = some .local := by unfold Env.kindOf; rw [H₀.sc]; exact hst
  refine wpAny_assign_Name (wpAny_storeName_local hkx (H₀.lc ▸ O₃.F.ns) (fun h₄ hn₄ hs₄ => ?_) (by rw [H₀.V.kind]; rfl))
  rw [H₀.lc] at hn₄ hs₄
  have O4 : Ok C h₀ L { s with heap := h₄, toks := tk₃ + 1 } (fun y => if y = x then some (.ref Da) else m y) T3 X3 μ3 := ⟨O₃.F.set hn₄ hs₄, O₃.N.set hs₄, O₃.M, O₃.sub, O₃.xin, O₃.st⟩
  have hNc := O4.N _ hcT3
  refine ⟨m₃, hcN.ns hNc.1, fun h₅ hs₅ => ?_⟩
  have hb : ∀ a ∈ [Ca] ++ [Da], a ∉ keys μ3 := fun a ha => by
    rcases List.mem_append.mp ha with h | h
    · rw [List.mem_singleton.mp h]; exact hcM
    · rw [List.mem_singleton.mp h]; exact hdM
  have O5 := O4.out (Z := [Ca]) (Y := [Da]) (h' := h₅) (tk := tk₃ + 1) (m' := fun y => if y = x then some (.ref Da) else m y) (by simpa using hcX3) (by simpa using hdX3) hb (O4.F.change hs₅ hNc.2.1 hNc.2.2) fun p hp hz => (hs₅.2 _ (by simpa using hz)).trans (O4.N p hp).1
  have l5 : Lift C.B T3 X3 (outT [Ca] T3) (outX ([Ca] ++ [Da]) X3) := lift_out (by simpa using hcX3) (by simpa using Or.inr hdX3)
  have st5 := Stp.out H₀.O st3 (Z := [Ca]) (Y := [Da]) fun p hp => by simpa using ⟨(off p hp).2, (off p hp).1⟩
  have rD : Rd C.B (outT [Ca] T3) (outX ([Ca] ++ [Da]) X3) (.ref Da) (.list acc) := by
    exact ⟨Da, _, vs, nn, rfl, .inr ⟨mem_outT.mpr ⟨hdT3, by simpa using hDC⟩, fun q => (mem_outX.mp q).2 (by simp)⟩, rfl, rfl, Rds.lift l5 _ _ hdR⟩
  have offc : ∀ c ∈ cs env, c ≠ Ca ∧ c ≠ Da := fun c hc => by
    obtain ⟨_, _, o, v, h1, _⟩ := H₀.cells c hc
    have := off _ h1
    exact ⟨this.2, this.1⟩
  refine P .next _ h₅ _ _ _ μ3 _ ⟨⟨H₀.F, H3.V.setLoc H₀.nd hi l5 (.loc hkx H₀.lc (by simp)) rD fun y w hy hw => ?_, O5⟩, H₀.sc, H₀.lc, H₀.nd, fun c hc => ?_, H₀.cinj⟩ st5.more2 hk
  · cases hw with
    | loc a b c => exact .loc a b (by simp [hy, c])
    | own o m₂ a b c d e => exact absurd H₀.lc (O₃.N _ b).2.1
    | cell c o a b d e f =>
      exact .cell c o a b (mem_outT.mpr ⟨d, by simpa using (offc c (lookup_cs b)).1⟩) e f
  · obtain ⟨h1, h2, o, v, h3, h4⟩ := H3.cells c hc
    have := offc c hc
    exact ⟨mem_outX.mpr ⟨h1, by simpa using this⟩, h2, o, v, mem_outT.mpr ⟨h3, by simpa using this.1⟩, h4⟩
theorem any_no {x : Str} : ∀ {l : List (Str × NameKind)}, allB (fun y : Str × NameKind => match y.2 with | .local => !sb y.1 x | .cell => !sb y.1 x | _ => true) l = true → (l.any fun (n, k) => n == x && (k == .local || k == .cell)) = false
  | [], _ => rfl
  | (y, k) :: r, h => by
    have h := an2 h
    rw [List.any_cons, any_no h.2, Bool.or_false]
    have h1 := h.1
    cases k with
    | «local» =>
      simp only [Bool.not_eq_true'] at h1
      have : (y == x) = false := beq_eq_false_iff_ne.mpr (sb_ne h1)
      simp [this]
    | cell =>
      simp only [Bool.not_eq_true'] at h1
      have : (y == x) = false := beq_eq_false_iff_ne.mpr (sb_ne h1)
      simp [this]
    | _ => simp
theorem lc_of {S : Sc} {t v : PySem.Expr} (h : usedOk S t v = true) : ∃ e g sc p, v = .ListComp e g sc p := by
  obtain ⟨_, _, _, h⟩ := onName_inv h
  obtain ⟨a, b, c, d, e, _⟩ := onLC_inv h
  exact ⟨a, b, c, d, e⟩
theorem used_of {S : Sc} {t e : PySem.Expr} {gens : List Comprehension} {sc : Scope} {lp : Pos} (h : usedOk S t (.ListComp e gens sc lp) = true) {env : Env} (hsc : env.scope = S.sc) (hk : env.scope.kind = .function) (l : Nat) :
    ∃ x p, t = .Name x p ∧ S.sc.names.lookup x = some .local ∧ swapsWith (.ListComp e gens sc lp) (some t) l env = pure true := by
  obtain ⟨x, p, rfl, w⟩ := onName_inv h
  obtain ⟨h1, w⟩ := an2 (show (isL (lkS x S.sc.names) && ((p.line == lp.line) && _)) = true from w)
  obtain ⟨h2, h3⟩ := an2 w
  rw [lkS_eq] at h1
  have h1 := isL_of h1
  refine ⟨x, p, rfl, h1, ?_⟩
  have hk' : S.sc.kind = .function := hsc ▸ hk
  unfold swapsWith
  simp only [Env.blockKind, hk', ScopeKind.isAnnotationScope, Bool.false_eq_true, if_false, any_no h3, Env.kindOf, hsc, h1]
  have e3 : (PySem.Expr.ListComp e gens sc lp).pos = lp := rfl
  simp only [e3, h2]
  rfl
end
section
variable {C : Cx} {Γ : Cfg} {n : Nat} {S : Sc} {A A₀ : Around} {fenv : Env} {outer : List Env} {h₀ : Heap} {L : Addr} {env : Env} {s s' s₀ : Shared} {m m' : Str → Option Value} {T T' T₀ T₁ : Led} {X X' X₀ X₁ : List Addr} {μ μ' μ₀ : Mem} {loc loc' : List D} {E : Value → Shared → Prop} {I : Addr} {P : Nat → Value → Prop} {St' : Nat → Heap → Prop} {Kk : Led} {i : Nat}
theorem SS_setC {e it : ME} {cond : List ME} {i : Nat} (he : SE C Γ n e) (hi : SE C Γ n it) (hc : ∀ e ∈ cond, SB C Γ n e) (S : Sc) {t v : PySem.Expr} {pos : Pos} (o1 : tgt S i t = true) (o2 : okE Γ S (.comp e it cond) v = true) (o3 : usedOk S t v = true) {Q : Flow → Shared → Prop} {k : KS}
    (H : StS C n S A A₀ fenv outer h₀ L env s m T X μ loc) (vv : vcE Γ (.comp e it cond) loc μ fun d μ1 => k .next (loc.set i d) μ1) (P : PS C n S A A₀ fenv outer h₀ L env s T X μ k Q) : wpAny (model C.prog C.w) A (exec (.Assign [t] v pos) env) Q E s := by
  obtain ⟨x, p, rfl, hi', hst'⟩ := tgt_of o1
  obtain ⟨el, cx, px, iter, ifs, sc, lp, rfl, hs, ok1, okc, ok2, ok3, hl⟩ := ok_comp o2
  obtain ⟨x2, p2, e2, hst, hsw⟩ := used_of o3 H.sc H.V.kind pos.line
  cases e2
  rw [exec_Assign_Name_used _ _ _ _ hsw]
  refine wpAny_bind (wpAny_standAt (wpAny_bind ?_))
  show wpAny _ A (do let _ ← comprehension (.ListComp el [⟨.Name cx px, iter, ifs, 0⟩] sc lp) sc env _ (newList []) false (eval iter env) (some (assign (.Name x p) env))) _ _ s
  refine wpAny_bind (wpAny_mono (wpAny_comprehension_free (use := some (assign (.Name x p) env)) (Q := fun _ s' => Q .next s') rfl (foldedSet_of hs env) (compSc_clos okc H.V) (compSc_of okc).1 (compSc_names okc)
    (src_plain hi ok1 H.toSt vv fun I P' St Kk xs h' tk T' X' μ' Y HL st off hP hz hk => ?_)) (fun _ s' hq => wpAny_pure (wpAny_pure hq)) fun _ _ e => e)
  exact comp_core he hc okc ok2 ok3 hl H.toSt Y HL st off hP hz hk (CFin.used H P hi' hst)
theorem SS_setCR (G : Good C Γ n) {e : ME} {rg cond : List ME} {i : Nat} (he : SE C Γ n e) (hr : SL C Γ n rg) (hc : ∀ e ∈ cond, SB C Γ n e) (S : Sc) {t v : PySem.Expr} {pos : Pos} (o1 : tgt S i t = true) (o2 : okE Γ S (.compR e rg cond) v = true) (o3 : usedOk S t v = true) {Q : Flow → Shared → Prop} {k : KS}
    (H : StS C n S A A₀ fenv outer h₀ L env s m T X μ loc) (vv : vcE Γ (.compR e rg cond) loc μ fun d μ1 => k .next (loc.set i d) μ1) (P : PS C n S A A₀ fenv outer h₀ L env s T X μ k Q) : wpAny (model C.prog C.w) A (exec (.Assign [t] v pos) env) Q E s := by
  obtain ⟨x, p, rfl, hi', hst'⟩ := tgt_of o1
  obtain ⟨el, cx, px, f, p0, args, p1, ifs, sc, lp, rfl, hf, hg, ok1, hne, okc, ok2, ok3, hl⟩ := ok_compR o2
  obtain ⟨x2, p2, e2, hst, hsw⟩ := used_of o3 H.sc H.V.kind pos.line
  cases e2
  rw [exec_Assign_Name_used _ _ _ _ hsw]
  refine wpAny_bind (wpAny_standAt (wpAny_bind ?_))
  show wpAny _ A (do let _ ← comprehension (.ListComp el [⟨.Name cx px, .Call (.Name f p0) args [] p1, ifs, 0⟩] sc lp) sc env _ (newList []) false (eval (.Call (.Name f p0) args [] p1) env) (some (assign (.Name x p) env))) _ _ s
  refine wpAny_bind (wpAny_mono (wpAny_comprehension_free (use := some (assign (.Name x p) env)) (Q := fun _ s' => Q .next s') rfl (fun _ => rfl) (compSc_clos okc H.V) (compSc_of okc).1 (compSc_names okc)
    (src_range G hr hf hg ok1 hne H.toSt vv fun I P' St Kk xs h' tk T' X' μ' Y HL st off hP hz hk => ?_)) (fun _ s' hq => wpAny_pure (wpAny_pure hq)) fun _ _ e => e)
  exact comp_core he hc okc ok2 ok3 hl H.toSt Y HL st off hP hz hk (CFin.used H P hi' hst)
theorem comp_or {e : ME} (h : isCo e = true) : (∃ a b c, e = .comp a b c) ∨ ∃ a b c, e = .compR a b c := by
  unfold isCo at h
  cases q : Nat.beq e.ctorIdx 28 with
  | true => exact .inl (ME.comp.elim (motive_1 := fun e => ∃ a b c, e = .comp a b c) e (Nat.eq_of_beq_eq_true q) fun a b c => ⟨a, b, c, rfl⟩)
  | false =>
    rw [q] at h
    exact .inr (ME.compR.elim (motive_1 := fun e => ∃ a b c, e = .compR a b c) e (Nat.eq_of_beq_eq_true h) fun a b c => ⟨a, b, c, rfl⟩)
theorem SS_setAny (G : Good C Γ n) {i : Nat} {e : ME} : SS C Γ n (.set i e) := by
  intro S st ok A A₀ fenv outer h₀ L env s m T X μ loc Q E k H v P
  obtain ⟨t, vv, pos, rfl, o1, o2, o3⟩ := okS_set ok
  cases hq : notLC vv with
  | true => exact SS_set (allE G e).1 S o1 o2 hq H v P
  | false =>
    have o3 := o3.resolve_left (by rw [hq]; exact Bool.false_ne_true)
    obtain ⟨u3, u4⟩ := an2 o3
    rcases comp_or u4 with ⟨a, b, c, rfl⟩ | ⟨a, b, c, rfl⟩
    · exact SS_setC (allE G a).1 (allE G b).1 (allL G c).2.2 S o1 o2 u3 H v P
    · exact SS_setCR G (allE G a).1 (allL G b).1 (allL G c).2.2 S o1 o2 u3 H v P
theorem SS_whl {c : ME} {b : List MS} (hc : SB C Γ n c) (hb : SSs C Γ n b) : SS C Γ n (.whl c b) := by
  intro S st ok A A₀ fenv outer h₀ L env s m T X μ loc Q E k H v P
  obtain ⟨test, body, pos, rfl, ok1, ok2⟩ := okS_whl ok
  obtain ⟨Inv, ms, h0, hv⟩ := v
  refine wpAny_While (codeAny_whileLoop (fun nn s' => ∃ h' tk m' T' X' μ' loc', s' = { s with heap := h', toks := tk } ∧ StS C n S A A₀ fenv outer h₀ L env s' m' T' X' μ' loc' ∧ Stp T X (cs env ++ keys μ) T' X' (cs env ++ keys μ') ∧ Inv loc' μ' ∧ nn = ms loc' μ')
    (fun nn s' h => ?_) (ms loc μ) ⟨s.heap, s.toks, m, T, X, μ, loc, rfl, H, .refl .., h0, rfl⟩)
  obtain ⟨h', tk, m', T', X', μ', loc', rfl, H', st', hI, rfl⟩ := h
  have P' := PS.next H.subC P (h' := h') (tk := tk) st'
  refine hc S _ ok1 A A₀ fenv outer h₀ L env _ m' T' X' μ' loc' _ _ _ H'.toSt (hv loc' μ' hI) (fun d μ h => ?_) fun b h2 tk2 T2 X2 μ2 O2 st2 kk => ?_
  · exact bl_of h
  · have H2 := H'.next O2 st2
    have P2 := PS.next H'.subC P' (h' := h2) (tk := tk2) st2.more2
    cases b with
    | true =>
      refine hb S _ ok2 A A₀ fenv outer h₀ L env _ m' T2 X2 μ2 loc' _ _ _ H2 (kk.1 rfl) fun o m3 h3 tk3 T3 X3 μ3 loc3 H3 st3 hk => ?_
      cases o with
      | next => exact ⟨_, hk.2, h3, tk3, m3, T3, X3, μ3, loc3, rfl, H3, st'.trans (st2.more2.trans st3 H'.subC) H.subC, hk.1, rfl⟩
      | ret d => exact fun va r => P2 (.ret d) m3 h3 tk3 T3 X3 μ3 loc3 H3 st3 hk va r
    | false => exact wpAny_execs_nil (PS.fin H2 P2 (kk.2 rfl))
theorem StS.upd (H : StS C n S A A₀ fenv outer h₀ L env s m T X μ loc) {a : Addr} {o : Obj} (ha : a ∈ X) (hc : a ∉ cs env) (O' : Ok C h₀ L s' m (updT T a o) X μ) : StS C n S A A₀ fenv outer h₀ L env s' m (updT T a o) X μ loc := by
  have l := lift_upd (C := C) (T := T) (o := o) ha
  refine ⟨⟨H.F, ⟨H.V.kind, H.V.gs, H.V.bs, H.V.len, H.V.gl, fun j y d hj hv hl hd => ?_, H.V.cell⟩, O'⟩, H.sc, H.lc, H.nd, fun c hcc => ?_, H.cinj⟩
  · obtain ⟨w, hw, r⟩ := H.V.rd j y d hj hv hl hd
    refine ⟨w, ?_, Rd.lift l _ _ r⟩
    cases hw with
    | loc a b c => exact .loc a b c
    | own o m₂ a b c d e => exact absurd H.lc (H.O.N _ b).2.1
    | cell c o a b d e f => exact .cell c o a b (mem_updT d fun q => hc (q ▸ lookup_cs b)) e f
  · obtain ⟨h1, h2, o, v, h3, h4⟩ := H.cells c hcc
    exact ⟨h1, h2, o, v, mem_updT h3 fun q => hc (q ▸ hcc), h4⟩
theorem StS.out (H : StS C n S A A₀ fenv outer h₀ L env s m T X μ loc) {Z : List Addr} (hZ : ∀ a ∈ Z, a ∈ X) (hc : ∀ a ∈ Z, a ∉ cs env) (O' : Ok C h₀ L s' m (outT Z T) (outX (Z ++ []) X) μ) : StS C n S A A₀ fenv outer h₀ L env s' m (outT Z T) (outX (Z ++ []) X) μ loc := by
  have l : Lift C.B T X (outT Z T) (outX (Z ++ []) X) := lift_out hZ (by simp)
  refine ⟨⟨H.F, ⟨H.V.kind, H.V.gs, H.V.bs, H.V.len, H.V.gl, fun j y d hj hv hl hd => ?_, H.V.cell⟩, O'⟩, H.sc, H.lc, H.nd, fun c hcc => ?_, H.cinj⟩
  · obtain ⟨w, hw, r⟩ := H.V.rd j y d hj hv hl hd
    refine ⟨w, ?_, Rd.lift l _ _ r⟩
    cases hw with
    | loc a b c => exact .loc a b c
    | own o m₂ a b c d e => exact absurd H.lc (H.O.N _ b).2.1
    | cell c o a b d e f => exact .cell c o a b (mem_outT.mpr ⟨d, fun q => hc _ q (lookup_cs b)⟩) e f
  · obtain ⟨h1, h2, o, v, h3, h4⟩ := H.cells c hcc
    exact ⟨mem_outX.mpr ⟨h1, fun q => hc c (by simpa using q) hcc⟩, h2, o, v, mem_outT.mpr ⟨h3, fun q => hc _ q hcc⟩, h4⟩
theorem LSt.nextC {Z : List Addr} (Y : Itr C A I n P St' Kk) (H : LSt C h₀ L s m T X μ I St' Kk i) (hZ : I ∉ Z) (hs : ∀ a ∈ Z ++ keys μ, a ∈ X) (O : Ok C h₀ L s' m' T' X' μ') (st : Stp T X (Z ++ keys μ) T' X' (Z ++ keys μ')) : LSt C h₀ L s' m' T' X' μ' I St' Kk i := by
  obtain ⟨o, ho⟩ := H.IT
  have hn : I ∉ Z ++ keys μ := fun q => (List.mem_append.mp q).elim hZ H.IM
  have ho' := st.keep _ ho hn
  exact ⟨O, ⟨o, ho'⟩, st.xs _ H.IX, fun q => hn (st.mnew _ ho (List.mem_append_right _ q)), Y.re _ _ _ o H.st (H.O.N _ ho).1 (O.N _ ho').1 fun p hp => O.has ((H.K p hp).step st hs), fun p hp => (H.K p hp).step st hs⟩
theorem go_sound (Y : Itr C A I n P St' Kk) (H : LSt C h₀ L s m T X μ I St' Kk i) {target : PySem.Expr} {v : Value} {Q : Unit → Shared → Prop} (h : Q () s) : wpAny (model C.prog C.w) A (letOwnedTupleGo target (.ref I) v) Q E s := by
  obtain ⟨o, ho⟩ := H.IT
  have hg := (H.O.N _ ho).1
  obtain ⟨nm, vs, hc, hd, hn⟩ := Y.go i s.heap o H.st hg
  cases target <;> first
    | exact wpAny_pure h
    | (cases v <;> first
        | exact wpAny_pure h
        | (refine wpAny_bind (wpAny_load hg ?_)
           dsimp only
           rw [hc, hd]
           simp only [hn, Bool.false_and, Bool.false_eq_true, if_false]
           exact wpAny_pure h))
theorem for_core {b : List MS} (hb : SSs C Γ n b) {t : List Nat} {target : PySem.Expr} {body : List PySem.Stmt} (ok : okSs Γ S b body = true)
    (ha : ∀ {s : Shared} {m : Str → Option Value} {T : Led} {X : List Addr} {μ : Mem} {loc loc1 : List D} {v : Value} {d : D} {E : Value → Shared → Prop} {Q : Unit → Shared → Prop}, StS C n S A A₀ fenv outer h₀ L env s m T X μ loc → Rd C.B T X v d → bindT t d loc = some loc1 →
      (∀ m' h' tk T' X', StS C n S A A₀ fenv outer h₀ L env { s with heap := h', toks := tk } m' T' X' μ loc1 → Stp T X (cs env ++ keys μ) T' X' (cs env ++ keys μ) → Q () { s with heap := h', toks := tk }) → wpAny (model C.prog C.w) A (assign target env v) Q E s)
    (H₀ : StS C n S A A₀ fenv outer h₀ L env s₀ m T₀ X₀ μ₀ loc) {xs : List D} {h₁ : Heap} {tk₁ : Nat} (Y : Itr C A I xs.length P St' Kk) (HL : LSt C h₀ L { s₀ with heap := h₁, toks := tk₁ } m T X μ I St' Kk 0) (st0 : Stp T₀ X₀ (keys μ₀) T X (keys μ))
    (offI : ∀ p ∈ T₀, p.1 ≠ I) (hP : ∀ (i : Nat) v d, P i v → xs[i]? = some d → Rd C.B T X v d) (hz : xs.length ≤ sizeLine) {k : KS} {Q : Flow → Shared → Prop}
    (v : forGo t (fun l m k => vcSs Γ b l m k) xs loc μ k) (PP : PS C n S A A₀ fenv outer h₀ L env s₀ T₀ X₀ μ₀ k Q) :
    codeAny (model C.prog C.w) A (.forLoop target (.ref I) body [] env) (fun r s' => match r with | .ok f => Q f s' | .error e => cameBackBy (model C.prog C.w) A env E e s') { s₀ with heap := h₁, toks := tk₁ } := by
  have hIc : I ∉ cs env := fun q => by
    obtain ⟨_, _, o, v, h1, _⟩ := H₀.cells I q
    exact offI _ h1 rfl
  obtain ⟨Inv, hInv⟩ : ∃ Inv : Nat → Shared → Prop, ∀ kk s', Inv kk s' ↔ ∃ h' tk m' T' X' μ' i loc', s' = { s₀ with heap := h', toks := tk } ∧ i ≤ xs.length ∧ kk = xs.length + 1 - i ∧ StS C n S A A₀ fenv outer h₀ L env { s₀ with heap := h', toks := tk } m' T' X' μ' loc' ∧ LSt C h₀ L { s₀ with heap := h', toks := tk } m' T' X' μ' I St' Kk i ∧
      Stp T₀ X₀ (cs env ++ keys μ₀) T' X' (cs env ++ keys μ') ∧ Lift C.B T X T' X' ∧ forGo t (fun l m k => vcSs Γ b l m k) (xs.drop i) loc' μ' k := ⟨_, fun _ _ => .rfl⟩
  refine codeAny_forLoop_any Inv (fun kk s' h => ?_) (xs.length + 1) ((hInv _ _).mpr ⟨h₁, tk₁, m, T, X, μ, 0, loc, rfl, Nat.zero_le _, rfl, H₀.next HL.O st0, HL, st0.more2, ⟨fun _ _ h => h⟩, v⟩)
  obtain ⟨h', tk, m', T', X', μ', i, loc', rfl, hi, rfl, H', HL', st', lf, vv⟩ := (hInv _ _).mp h
  by_cases hlt : i < xs.length
  · rw [List.drop_eq_getElem_cons hlt] at vv
    obtain ⟨loc1, hb1, vv⟩ := onSm_inv vv
    refine HL'.turn Y hlt fun w h₃ tk₃ o₃ hPw HL3 => ?_
    have l3 := lift_turn (o := o₃) HL'
    have H3 := H'.upd (o := o₃) HL'.IX hIc HL3.O
    have st3 := st'.upd (I := I) (o := o₃) offI
    refine go_sound Y HL3 (ha H3 (Rd.lift l3 _ _ (Rd.lift lf _ _ (hP i w _ hPw (List.getElem?_eq_getElem hlt)))) hb1 fun m4 h4 tk4 T4 X4 H4 st4 => ?_)
    have st04 := st3.trans st4 H₀.subC
    have HL4 := HL3.nextC Y hIc H3.subC H4.O st4
    have l4 : Lift C.B T X T4 X4 := ⟨fun a o h => (st4.lift H3.subC).has _ _ (l3.has _ _ (lf.has _ _ h))⟩
    have P4 := PS.next H₀.subC PP (h' := h4) (tk := tk4) st04
    refine hb S _ ok A A₀ fenv outer h₀ L env _ m4 T4 X4 μ' loc1 _ _ _ H4 vv fun o m5 h5 tk5 T5 X5 μ5 loc5 H5 st5 hk => ?_
    cases o with
    | next =>
      exact ⟨xs.length + 1 - (i + 1), sub_lt hlt, (hInv _ _).mpr ⟨h5, tk5, m5, T5, X5, μ5, i + 1, loc5, rfl, hlt, rfl, H5, HL4.nextC Y hIc H4.subC H5.O st5, st04.trans st5 H₀.subC, ⟨fun a o h => (st5.lift H4.subC).has _ _ (l4.has _ _ h)⟩, hk⟩⟩
    | ret d => exact fun va r => P4 (.ret d) m5 h5 tk5 T5 X5 μ5 loc5 H5 st5 hk va r
  · obtain rfl : i = xs.length := Nat.le_antisymm hi (Nat.not_lt.mp hlt)
    rw [List.drop_length] at vv
    refine HL'.done Y fun h₃ tk₃ O₃ => ?_
    have H3 := H'.out (Z := [I]) (by simpa using HL'.IX) (by simpa using hIc) O₃
    refine wpAny_execs_nil (PP .next m' h₃ tk₃ _ _ μ' loc' H3 (Stp.out H₀.O st' (Z := [I]) (Y := []) fun p hp => by simpa using offI p hp) vv)
theorem assign_one {j : Nat} {target : PySem.Expr} (o1 : tgt S j target = true) {s : Shared} {m : Str → Option Value} {T : Led} {X : List Addr} {μ : Mem} {loc loc1 : List D} {v : Value} {d : D} {E : Value → Shared → Prop} {Q : Unit → Shared → Prop} (H : StS C n S A A₀ fenv outer h₀ L env s m T X μ loc) (r : Rd C.B T X v d) (hb : bindT [j] d loc = some loc1)
    (c : ∀ m' h' tk T' X', StS C n S A A₀ fenv outer h₀ L env { s with heap := h', toks := tk } m' T' X' μ loc1 → Stp T X (cs env ++ keys μ) T' X' (cs env ++ keys μ) → Q () { s with heap := h', toks := tk }) : wpAny (model C.prog C.w) A (assign target env v) Q E s := by
  obtain ⟨x, p, rfl, hi, hst⟩ := tgt_of o1
  cases hb
  exact wpAny_assign_Name (H.store hi hst r fun m2 h2 tk2 T2 H2 st2 _ _ => c m2 h2 tk2 T2 X H2 st2)
theorem assign_many {i j : Nat} {is : List Nat} {ts : List PySem.Expr} {kk : Nat} {tp : Pos} (o1 : tgts S (i :: j :: is) ts = true) (hlen : (i :: j :: is).length ≤ 100) {s : Shared} {m : Str → Option Value} {T : Led} {X : List Addr} {μ : Mem} {loc loc1 : List D} {v : Value} {d : D} {E : Value → Shared → Prop} {Q : Unit → Shared → Prop} (H : StS C n S A A₀ fenv outer h₀ L env s m T X μ loc) (r : Rd C.B T X v d) (hb : bindT (i :: j :: is) d loc = some loc1)
    (c : ∀ m' h' tk T' X', StS C n S A A₀ fenv outer h₀ L env { s with heap := h', toks := tk } m' T' X' μ loc1 → Stp T X (cs env ++ keys μ) T' X' (cs env ++ keys μ) → Q () { s with heap := h', toks := tk }) : wpAny (model C.prog C.w) A (assign (.Tuple ts kk tp) env v) Q E s := by
  cases d with
  | tup xs =>
    have hb : (if xs.length = (i :: j :: is).length then some (setVs loc (i :: j :: is) xs) else Option.none) = some loc1 := hb
    by_cases hl : xs.length = (i :: j :: is).length
    · rw [if_pos hl] at hb
      cases hb
      rw [arm_assign_Tuple]
      refine wpAny_bind (wpAny_standAt ?_)
      unfold unpack
      obtain ⟨e1, e2⟩ := tgts_len env o1
      rw [e1, e2, ← hl]
      refine wpAny_bind (wpAny_holding (unpack_sound (xs := xs) H.F.hh H.O r (.inl rfl) (by rw [sizeLine_eq, hl]; exact Nat.le_trans hlen (by decide)) fun vs h2 tk2 T2 X2 O2 st2 rs => ?_))
      have H2 := H.next O2 st2
      exact StS.assignAll (i :: j :: is) ts vs xs o1 H2 rs hl fun m3 h3 tk3 T3 H3 st3 _ _ => c m3 h3 tk3 T3 X2 H3 (st2.more2.trans st3 H.subC)
    · rw [if_neg hl] at hb; cases hb
  | _ => cases hb
theorem SS_fore {t : List Nat} {it : ME} {b : List MS} (hi : SE C Γ n it) (hb : SSs C Γ n b) : SS C Γ n (.fore t it b) := by
  intro S st ok A A₀ fenv outer h₀ L env s m T X μ loc Q E k H v P
  obtain ⟨target, iter, body, pos, rfl, o2, o3, o4, o1⟩ := okS_fore ok
  refine wpAny_For (src_plain hi o3 H.toSt v fun I P' St Kk xs h' tk T' X' μ' Y HL st off hP hz hk => ?_) (foldedSet_of o2 env)
  rcases o1 with ⟨i, rfl, o1⟩ | ⟨i, j, is, ts, kk, q, rfl, rfl, o1, hl⟩
  · exact for_core hb o4 (assign_one o1) H Y HL st off hP hz hk P
  · exact for_core hb o4 (assign_many o1 (Nat.le_trans (Nat.add_le_add_right hl 2) (by decide))) H Y HL st off hP hz hk P
theorem SS_forr (G : Good C Γ n) {i : Nat} {rg : List ME} {b : List MS} (hr : SL C Γ n rg) (hb : SSs C Γ n b) : SS C Γ n (.forr i rg b) := by
  intro S st ok A A₀ fenv outer h₀ L env s m T X μ loc Q E k H v P
  obtain ⟨target, f, p0, args, p1, body, pos, rfl, o1, o2, o3, o4, o5, o6⟩ := okS_forr ok
  refine wpAny_For (src_range G hr o2 o3 o4 o5 H.toSt v fun I P' St Kk xs h' tk T' X' μ' Y HL st off hP hz hk => ?_) (fun _ => rfl)
  exact for_core hb o6 (assign_one o1) H Y HL st off hP hz hk P
end
section
variable {C : Cx} {Γ : Cfg} {n : Nat}
mutual
theorem allS (G : Good C Γ n) : ∀ ms : MS, SS C Γ n ms
  | .set i e => SS_setAny G
  | .setT is e => SS_setT (allE G e).1
  | .newL i => SS_newL
  | .setI o i v => SS_setI (allE G o).1 (allE G i).1 (allE G v).1
  | .ret e => SS_ret (allE G e).1
  | .ex e => SS_ex (allE G e).1
  | .fail => SS_fail
  | .ite c t f => SS_ite (allE G c).2 (allSs G t) (allSs G f)
  | .whl c b => SS_whl (allE G c).2 (allSs G b)
  | .fore t it b => SS_fore (allE G it).1 (allSs G b)
  | .forr i rg b => SS_forr G (allL G rg).1 (allSs G b)
theorem allSs (G : Good C Γ n) : ∀ ms : List MS, SSs C Γ n ms
  | [] => SSs_nil
  | m :: ms => SSs_cons (allS G m) (allSs G ms)
end
end
noncomputable def noIn (x : Str) : List Str → Bool
  | [] => true
  | y :: r => !sb x y && noIn x r
noncomputable def nodupB : List Str → Bool
  | [] => true
  | x :: r => noIn x r && nodupB r
theorem noIn_of {x : Str} : ∀ {l : List Str}, noIn x l = true → ∀ (j : Nat), l[j]? ≠ some x
  | [], _, j, h => by simp at h
  | y :: r, h, j, e => by
    unfold noIn at h
    rw [Bool.and_eq_true, Bool.not_eq_true'] at h
    cases j with
    | zero => simp at e; exact sb_ne h.1 e.symm
    | succ j => exact noIn_of h.2 j (by simpa using e)
theorem nodupB_of : ∀ {l : List Str}, nodupB l = true → ∀ (i j : Nat) x, l[i]? = some x → l[j]? = some x → i = j
  | [], _, i, j, x, h, _ => by simp at h
  | y :: r, h, i, j, x, hi, hj => by
    unfold nodupB at h
    rw [Bool.and_eq_true] at h
    cases i with
    | zero =>
      simp at hi; subst hi
      cases j with
      | zero => rfl
      | succ j => exact absurd (by simpa using hj) (noIn_of h.1 j)
    | succ i =>
      cases j with
      | zero =>
        simp at hj; subst hj
        exact absurd (by simpa using hi) (noIn_of h.1 i)
      | succ j => rw [nodupB_of h.2 i j x (by simpa using hi) (by simpa using hj)]
theorem zip_lookup {ps : List Str} {vs : List Value} (nd : ∀ (i j : Nat) x, ps[i]? = some x → ps[j]? = some x → i = j) (hl : vs.length = ps.length) {i : Nat} {x : Str} {v : Value} (hi : ps[i]? = some x) (hv : vs[i]? = some v) : (ps.zip vs).reverse.lookup x = some v := by
  have hm : (x, v) ∈ (ps.zip vs).reverse := by
    rw [List.mem_reverse]
    have : (ps.zip vs)[i]? = some (x, v) := by rw [List.getElem?_zip_eq_some]; exact ⟨hi, hv⟩
    exact List.mem_of_getElem? this
  obtain ⟨b, hb⟩ := mem_lookup hm
  have hb' := lookup_mem hb
  rw [List.mem_reverse] at hb'
  obtain ⟨j, hj⟩ := List.getElem?_of_mem hb'
  rw [List.getElem?_zip_eq_some] at hj
  have := nd i j x hi hj.1
  subst this
  rw [hv] at hj
  cases hj.2
  exact hb
noncomputable def retK (k : KE) : KS := fun o _ μ' => match o with
  | .next => k .none μ'
  | .ret d => k d μ'
theorem Fm.call {C : Cx} {n : Nat} {A A₀ : Around} {fenv : Env} {outer : List Env} {h₀ g : Heap} {L L' : Addr} {env : Env} (F : Fm C (n + 1) A A₀ fenv outer h₀ L) (hf : env.frame = some L') (hk : env.scope.kind = .function) (B : Below A C.B (fenv :: outer) g) (st : h₀.StaysIn g) : Fm C n (A.deeper env) A env (fenv :: outer) g L' :=
  ⟨F.hh, by show A.depth + 1 + 4 * n + 8 < _; have := F.hd; lia, by show A.units + 3 + 32 * n + 200 < _; have := F.hu; lia, Around.frames_deeper F.hA, hf, hk, B, F.wd.keeps fun b o e => st b o e⟩
section
variable {C : Cx} {Γ : Cfg} {n : Nat}
theorem call_entry (G : Good C Γ n) {f : Addr} {fo : Obj} {name qual : Str} {params : Arguments} {body : List PySem.Stmt} {scope : Scope} {dV kV doc pm cdv ct : Value} {an : Option Addr}
    (hf : ∀ h, C.K.In h → h.get? f = some fo) (hd : fo.data = .func (fnX name qual params body scope [] dV kV doc pm an cdv ct)) (hcd : ∀ h, C.K.In h → h.CodeRec cdv qual)
    {ps rest : List Str} {ms : List MS} (okp : allB (fun p => isL (lkS p scope.names)) ps = true) (okc : allB (fun y : Str × NameKind => match y.2 with | .local => true | .globalImplicit => true | _ => false) scope.names = true) (hnd : nodupB (ps ++ rest) = true) (okm : okSs Γ ⟨ps ++ rest, scope⟩ ms body = true)
    {ds : List D} {μ : Mem} {k : KE} (hl : ds.length = ps.length) (hb : ∀ s vs, C.K.In s.heap → vs.length = ps.length → BindsTo s (fnX name qual params body scope [] dV kV doc pm an cdv ct) ⟨vs, []⟩ (ps.zip vs)) (v : vcSs Γ ms (ds ++ List.replicate rest.length .undef) μ (retK k))
    (hco : scope.isCoroutine = false) (hgen : scope.isGenerator = false) (hk : scope.kind = .function) : CallOk C (n + 1) f ds μ k := by
  intro A A₀ fenv outer h₀ L s m T X vs Q E F O r P
  have hvl : vs.length = ps.length := by rw [r.length, hl]
  have W : Wd C s.heap := F.wd.keeps O.F.keep
  have ndp : ∀ (i j : Nat) x, ps[i]? = some x → ps[j]? = some x → i = j := fun i j x hi hj => nodupB_of hnd i j x (by rw [List.getElem?_append_left (List.getElem?_eq_some_iff.mp hi).1]; exact hi) (by rw [List.getElem?_append_left (List.getElem?_eq_some_iff.mp hj).1]; exact hj)
  refine wpAny_call (callX_plain F.bl O.F O.N F.wd.nl F.hA F.hf F.hk (hf _ W.k) hd (hcd _ W.k) (by have := F.hd; (clear hvl hl; lia)) (hb s vs W.k hvl) (fun y hy => ?_) (fun g L' h₁ Fg F' N' B' st hlt => ?_) (fun x hx q => ?_) hco hgen hk)
  · have hy1 : y.1 ∈ ps := (List.of_mem_zip (a := y.1) (b := y.2) hy).1
    have := allB_of okp _ hy1
    rw [lkS_eq] at this
    exact isL_of this
  · have O' : Ok C g L' { s with heap := h₁, toks := s.toks + (ps.zip vs).length } (fun y => (ps.zip vs).reverse.lookup y) T X μ := ⟨F', N', O.M, O.sub, O.xin, fun b o e => st b o (O.st b o e)⟩
    have F2 : Fm C n (A.deeper (envX qual scope L' f cdv [])) A (envX qual scope L' f cdv []) (fenv :: outer) g L' := F.call rfl hk B' st
    have V : EnvOk C L' (envX qual scope L' f cdv []) ⟨ps ++ rest, scope⟩ (fun y => (ps.zip vs).reverse.lookup y) T X (keys μ) (ds ++ List.replicate rest.length .undef) := by
      refine ⟨hk, rfl, rfl, by simp [hl], fun x hx => hx, fun i x d hi hv hlo hdd => ?_, fun x hx => ?_⟩
      · by_cases q : i < ps.length
        · rw [List.getElem?_append_left q] at hi
          rw [List.getElem?_append_left (by rw [hl]; exact q)] at hlo
          obtain ⟨w, hw, rw'⟩ := r.get i d hlo
          have hx : scope.names.lookup x = some .local := by
            have := allB_of okp _ (List.mem_of_getElem? hi)
            rw [lkS_eq] at this
            exact isL_of this
          exact ⟨w, .loc hx rfl (zip_lookup ndp hvl hi hw), rw'⟩
        · rw [List.getElem?_append_right (by rw [hl]; (clear hvl hl; lia))] at hlo
          have := List.mem_of_getElem? hlo
          rw [List.eq_of_mem_replicate this] at hdd
          cases hdd
      · have := allB_of okc _ (lookup_mem hx)
        cases this
    have H : StS C n ⟨ps ++ rest, scope⟩ (A.deeper (envX qual scope L' f cdv [])) A (envX qual scope L' f cdv []) (fenv :: outer) g L' (envX qual scope L' f cdv []) { s with heap := h₁, toks := s.toks + (ps.zip vs).length } (fun y => (ps.zip vs).reverse.lookup y) T X μ (ds ++ List.replicate rest.length .undef) :=
      ⟨⟨F2, V, O'⟩, rfl, rfl, nodupB_of hnd, fun c hc => absurd hc List.not_mem_nil, fun x y c h => by cases h⟩
    refine allSs G ms _ body okm _ _ _ _ _ _ _ _ _ _ _ _ _ _ _ _ H v fun o m2 h2 tk2 T2 X2 μ2 loc2 H2 st2 hk2 => ?_
    have fin : ∀ v d, Rd C.B T2 X2 v d → k d μ2 → LeaveK h₀ L m g (fun r s' => match r with | .ok (.ret v) => Q v s' | .ok _ => False | .error e => E e s') v { s with heap := h2, toks := tk2 } := fun v d r hkd =>
      leaveK_ H2.O.F H2.O.N fun Fh Nh => P v d h2 tk2 T2 X2 μ2 ⟨Fh, Nh, H2.O.M, H2.O.sub, H2.O.xin, O.st⟩ st2 r hkd
    cases o with
    | next => exact fin .none .none to_none hk2
    | ret d => exact fun v r => fin v d r hk2
  · have := allB_of okc x hx
    rw [q] at this; cases this
end
noncomputable abbrev pw : Program := PySem.Challenge.pw_np0053_01
noncomputable abbrev tS (s : String) : Str := Str.ofString s
noncomputable abbrev eD (P : Params) (x : Str) (t : Tok) (v : Value) : DictEntry := ⟨PyData.keyHash P x, .str x t, v⟩
noncomputable def nthS : Nat → List PySem.Stmt → PySem.Stmt
  | _, [] => .Pass ⟨0, 0, 0, 0⟩
  | 0, a :: _ => a
  | n + 1, _ :: r => nthS n r
noncomputable abbrev dA (i : Nat) : PySem.Stmt := nthS i pw.main.body
noncomputable def cB : PySem.Stmt → List PySem.Stmt
  | .ClassDef _ _ _ b _ _ _ _ _ _ _ => b
  | _ => []
noncomputable abbrev dM (i j : Nat) : PySem.Stmt := nthS j (cB (dA i))
noncomputable def fP : PySem.Stmt → Arguments
  | .FunctionDef _ a _ _ _ _ _ _ _ _ => a
  | _ => ⟨[], [], none, [], [], none, []⟩
noncomputable def fB : PySem.Stmt → List PySem.Stmt
  | .FunctionDef _ _ b _ _ _ _ _ _ _ => b
  | _ => []
noncomputable def fS : PySem.Stmt → Scope
  | .FunctionDef _ _ _ _ _ _ s _ _ _ => s
  | _ => ⟨.function, [], false, false, []⟩
noncomputable abbrev oT : Obj := ⟨.type "tuple", none, .seq #[] 0, #[]⟩
noncomputable abbrev oF : Obj := ⟨.none, none, .fields #[], #[]⟩
noncomputable abbrev lE (o : Obj) : BT := .node o .nil .nil
noncomputable def oC (n : String) (s l c a b : Nat) (v w x y : Value) (t : Nat) : Obj := ⟨.type "code", none, .fields #[.str (tS n) s, .str (tS n) (s + 1), .str (tS "/claim/cut.py") (s + 2), .int (Int.ofNat l) 0, .int (Int.ofNat c) 0, .int 0 0, .int 0 0, .int 3 0, .ref a, .bool true, .int 181 0, .ref b, v, w, x, y, .int (Int.ofNat t) 0, .int (Int.ofNat l) 0, .str (tS "/claim/cut.py") (t + 1)], #[]⟩
noncomputable def oN (n q : String) (d : PySem.Stmt) : Obj := ⟨.none, none, .func ⟨tS n, tS q, fP d, .stmts (fB d), fS d, 0, [], .none, .none, .none, .none, none, .none, .none, 0⟩, #[]⟩
noncomputable def oU (n q : String) (d : PySem.Stmt) (m : String) (t r : Nat) : Obj := ⟨.type "function", none, .func ⟨tS n, tS q, fP d, .stmts (fB d), fS d, 3, [], .none, .none, .none, .str (tS m) t, none, .ref r, .none, 0⟩, #[]⟩
noncomputable def nV : List String → Nat → List Value
  | [], _ => []
  | a :: r, t => .str (tS a) t :: nV r (t + 1)
noncomputable def oV (l : List String) (t : Nat) : Obj := ⟨.type "tuple", none, .seq ⟨nV l t⟩ 0, #[]⟩
noncomputable def o13_a : Obj := ⟨(.type "code"), none, (.fields #[(.str (tS "<module>") 182), (.str (tS "<module>") 183), (.str (tS "/claim/cut.py") 184), (.int 1 0), (.int 0 0), (.int 0 0), (.int 0 0), (.int 0 0), (.ref 11), (.bool false), (.int 181 0), (.ref 12), .none, .none, .none, .none, (.int 185 0), (.int 1 0), (.str (tS "/claim/cut.py") 186)]), #[]⟩
noncomputable def o14_a : Obj := ⟨(.type "frame"), none, .plain, #[(some (.ref 13)), (some (.ref 3)), (some (.ref 3)), none, (some (.str (tS "__main__") 164)), none, (some (.ref 0))]⟩
noncomputable def t_a (P : Params) : BT := (.node (boot_o_0 P) (.node (boot_o_1 P) (.node (boot_o_3 P) (lE (boot_o_7 P)) (lE oT)) (.node (boot_o_5 P) (lE (boot_o_9 P)) (lE o13_a))) (.node (boot_o_2 P) (.node (boot_o_4 P) (lE (boot_o_8 P)) (lE oF)) (.node (boot_o_6 P) (lE (boot_o_10 P)) (lE o14_a))))
noncomputable def o3_0 (P : Params) : Obj := ⟨(.type "dict"), none, (.dict #[(eD P (tS "__name__") 165 (.str (tS "emacs.columns") 272)), (eD P (tS "__doc__") 166 .none), (eD P (tS "__package__") 167 .none), (eD P (tS "__loader__") 168 (.builtin "__main__.__loader__#opaque")), (eD P (tS "__spec__") 169 .none), (eD P (tS "__annotations__") 170 (.ref 6)), (eD P (tS "__builtins__") 171 (.ref 4)), (eD P (tS "__file__") 173 (.str (tS "/claim/cut.py") 172)), (eD P (tS "__cached__") 174 .none), (eD P (tS "_wall") 193 (.ref 21)), (eD P (tS "NEWLINE") 197 (.int 10 196)), (eD P (tS "SPACE") 199 (.int 32 198)), (eD P (tS "TAB") 201 (.int 9 200)), (eD P (tS "BLANKS") 202 (.ref 22)), (eD P (tS "line_start") 211 (.ref 29)), (eD P (tS "line_end") 220 (.ref 36)), (eD P (tS "next_start") 229 (.ref 43)), (eD P (tS "blanks_end") 238 (.ref 50)), (eD P (tS "blanks_begin") 247 (.ref 57)), (eD P (tS "is_line_begin") 255 (.ref 64)), (eD P (tS "is_line_end") 263 (.ref 71)), (eD P (tS "is_blank_line") 271 (.ref 78)), (eD P (tS "DELETE") 275 (.int 127 274)), (eD P (tS "width_at") 284 (.ref 85))] 24), #[]⟩
noncomputable def o12_0 : Obj := ⟨.none, none, (.fields #[(.int 1 0), (.int 0 0), (.ref 20), (.int 9 0), (.int 0 0), (.ref 28), (.int 14 0), (.int 0 0), (.ref 35), (.int 19 0), (.int 0 0), (.ref 42), (.int 22 0), (.int 0 0), (.ref 49), (.int 27 0), (.int 0 0), (.ref 56), (.int 32 0), (.int 0 0), (.ref 63), (.int 34 0), (.int 0 0), (.ref 70), (.int 36 0), (.int 0 0), (.ref 77), (.int 40 0), (.int 0 0), (.ref 84)]), #[]⟩
noncomputable def o17_0 : Obj := oV ["k"] 190
noncomputable def o19_0 : Obj := oN "_wall" "_wall" (dA 0)
noncomputable def o20_0 : Obj := oC "_wall" 187 1 1 15 16 .none (.ref 17) (.ref 18) (.ref 19) 191
noncomputable def o21_0 : Obj := oU "_wall" "_wall" (dA 0) "__main__" 164 20
noncomputable def o22_0 : Obj := ⟨(.type "tuple"), none, (.seq #[(.int 32 198), (.int 9 200)] 0), #[]⟩
noncomputable def o25_0 : Obj := oV ["view", "place", "at"] 206
noncomputable def o27_0 : Obj := oN "line_start" "line_start" (dA 6)
noncomputable def o28_0 : Obj := oC "line_start" 203 9 2 23 24 .none (.ref 25) (.ref 26) (.ref 27) 209
noncomputable def o29_0 : Obj := oU "line_start" "line_start" (dA 6) "emacs.lines" 194 28
noncomputable def o32_0 : Obj := oV ["view", "place", "at"] 215
noncomputable def o34_0 : Obj := oN "line_end" "line_end" (dA 7)
noncomputable def o35_0 : Obj := oC "line_end" 212 14 2 30 31 .none (.ref 32) (.ref 33) (.ref 34) 218
noncomputable def o36_0 : Obj := oU "line_end" "line_end" (dA 7) "emacs.lines" 194 35
noncomputable def o39_0 : Obj := oV ["view", "place", "at"] 224
noncomputable def o41_0 : Obj := oN "next_start" "next_start" (dA 8)
noncomputable def o42_0 : Obj := oC "next_start" 221 19 2 37 38 .none (.ref 39) (.ref 40) (.ref 41) 227
noncomputable def o43_0 : Obj := oU "next_start" "next_start" (dA 8) "emacs.lines" 194 42
noncomputable def o46_0 : Obj := oV ["view", "place", "at"] 233
noncomputable def o48_0 : Obj := oN "blanks_end" "blanks_end" (dA 9)
noncomputable def o49_0 : Obj := oC "blanks_end" 230 22 2 44 45 .none (.ref 46) (.ref 47) (.ref 48) 236
noncomputable def o50_0 : Obj := oU "blanks_end" "blanks_end" (dA 9) "emacs.lines" 194 49
noncomputable def o53_0 : Obj := oV ["view", "place", "at"] 242
noncomputable def o55_0 : Obj := oN "blanks_begin" "blanks_begin" (dA 10)
noncomputable def o56_0 : Obj := oC "blanks_begin" 239 27 2 51 52 .none (.ref 53) (.ref 54) (.ref 55) 245
noncomputable def o57_0 : Obj := oU "blanks_begin" "blanks_begin" (dA 10) "emacs.lines" 194 56
noncomputable def o60_0 : Obj := oV ["view", "place"] 251
noncomputable def o62_0 : Obj := oN "is_line_begin" "is_line_begin" (dA 11)
noncomputable def o63_0 : Obj := oC "is_line_begin" 248 32 2 58 59 .none (.ref 60) (.ref 61) (.ref 62) 253
noncomputable def o64_0 : Obj := oU "is_line_begin" "is_line_begin" (dA 11) "emacs.lines" 194 63
noncomputable def o67_0 : Obj := oV ["view", "place"] 259
noncomputable def o69_0 : Obj := oN "is_line_end" "is_line_end" (dA 12)
noncomputable def o70_0 : Obj := oC "is_line_end" 256 34 2 65 66 .none (.ref 67) (.ref 68) (.ref 69) 261
noncomputable def o71_0 : Obj := oU "is_line_end" "is_line_end" (dA 12) "emacs.lines" 194 70
noncomputable def o74_0 : Obj := oV ["view", "place"] 267
noncomputable def o76_0 : Obj := oN "is_blank_line" "is_blank_line" (dA 13)
noncomputable def o77_0 : Obj := oC "is_blank_line" 264 36 2 72 73 .none (.ref 74) (.ref 75) (.ref 76) 269
noncomputable def o78_0 : Obj := oU "is_blank_line" "is_blank_line" (dA 13) "emacs.lines" 194 77
noncomputable def o81_0 : Obj := oV ["code", "column", "width"] 279
noncomputable def o83_0 : Obj := oN "width_at" "width_at" (dA 16)
noncomputable def o84_0 : Obj := oC "width_at" 276 40 3 79 80 .none (.ref 81) (.ref 82) (.ref 83) 282
noncomputable def o85_0 : Obj := oU "width_at" "width_at" (dA 16) "emacs.columns" 272 84
noncomputable def t_0 (P : Params) : BT := (.node (boot_o_0 P) (.node (boot_o_1 P) (.node (o3_0 P) (.node (boot_o_7 P) (.node oT (.node oF (lE o63_0) .nil) (.node oT (lE oT) .nil)) (.node oT (.node o39_0 (lE o71_0) .nil) (lE o55_0))) (.node oT (.node o19_0 (.node o35_0 (lE o67_0) .nil) (.node oT (lE o83_0) .nil)) (.node o27_0 (.node o43_0 (lE oT) .nil) (lE oF)))) (.node (boot_o_5 P) (.node (boot_o_9 P) (.node o17_0 (.node oT (lE oT) .nil) (.node o49_0 (lE o81_0) .nil)) (.node o25_0 (.node o41_0 (lE oF) .nil) (lE o57_0))) (.node o13_a (.node o21_0 (.node oT (lE o69_0) .nil) (.node o53_0 (lE o85_0) .nil)) (.node o29_0 (.node oF (lE o77_0) .nil) (lE oT))))) (.node (boot_o_2 P) (.node (boot_o_4 P) (.node (boot_o_8 P) (.node oF (.node o32_0 (lE o64_0) .nil) (.node o48_0 (lE oF) .nil)) (.node oF (.node oT (lE oT) .nil) (lE o56_0))) (.node o12_0 (.node o20_0 (.node o36_0 (lE oT) .nil) (.node oF (lE o84_0) .nil)) (.node o28_0 (.node oT (lE o76_0) .nil) (lE o60_0)))) (.node (boot_o_6 P) (.node (boot_o_10 P) (.node oT (.node o34_0 (lE oF) .nil) (.node o50_0 (lE oT) .nil)) (.node oT (.node o42_0 (lE o74_0) .nil) (lE oT))) (.node o14_a (.node o22_0 (.node oF (lE o70_0) .nil) (lE oT)) (.node oT (.node o46_0 (lE o78_0) .nil) (lE o62_0))))))
noncomputable def o3_1 (P : Params) : Obj := ⟨(.type "dict"), none, (.dict #[(eD P (tS "__name__") 165 (.str (tS "emacs.deletion") 306)), (eD P (tS "__doc__") 166 .none), (eD P (tS "__package__") 167 .none), (eD P (tS "__loader__") 168 (.builtin "__main__.__loader__#opaque")), (eD P (tS "__spec__") 169 .none), (eD P (tS "__annotations__") 170 (.ref 6)), (eD P (tS "__builtins__") 171 (.ref 4)), (eD P (tS "__file__") 173 (.str (tS "/claim/cut.py") 172)), (eD P (tS "__cached__") 174 .none), (eD P (tS "_wall") 193 (.ref 21)), (eD P (tS "NEWLINE") 197 (.int 10 196)), (eD P (tS "SPACE") 199 (.int 32 198)), (eD P (tS "TAB") 201 (.int 9 200)), (eD P (tS "BLANKS") 202 (.ref 22)), (eD P (tS "line_start") 211 (.ref 29)), (eD P (tS "line_end") 220 (.ref 36)), (eD P (tS "next_start") 229 (.ref 43)), (eD P (tS "blanks_end") 238 (.ref 50)), (eD P (tS "blanks_begin") 247 (.ref 57)), (eD P (tS "is_line_begin") 255 (.ref 64)), (eD P (tS "is_line_end") 263 (.ref 71)), (eD P (tS "is_blank_line") 271 (.ref 78)), (eD P (tS "DELETE") 275 (.int 127 274)), (eD P (tS "width_at") 284 (.ref 85)), (eD P (tS "column_of_codes") 294 (.ref 92)), (eD P (tS "column_at") 305 (.ref 99)), (eD P (tS "OPENS") 309 (.str (tS "('") 308)), (eD P (tS "CLOSES") 311 (.str (tS ")") 310)), (eD P (tS "horizontal_edit") 320 (.ref 106)), (eD P (tS "just_edit") 329 (.ref 113)), (eD P (tS "wants_space") 339 (.ref 120)), (eD P (tS "fixup_edit") 350 (.ref 127)), (eD P (tS "join_edit") 363 (.ref 134)), (eD P (tS "blank_run") 372 (.ref 141)), (eD P (tS "behind_blanks") 381 (.ref 148)), (eD P (tS "line_behind") 390 (.ref 155)), (eD P (tS "blank_lines_edits") 396 (.ref 160))] 37), #[]⟩
noncomputable def o12_1 : Obj := ⟨.none, none, (.fields #[(.int 1 0), (.int 0 0), (.ref 20), (.int 9 0), (.int 0 0), (.ref 28), (.int 14 0), (.int 0 0), (.ref 35), (.int 19 0), (.int 0 0), (.ref 42), (.int 22 0), (.int 0 0), (.ref 49), (.int 27 0), (.int 0 0), (.ref 56), (.int 32 0), (.int 0 0), (.ref 63), (.int 34 0), (.int 0 0), (.ref 70), (.int 36 0), (.int 0 0), (.ref 77), (.int 40 0), (.int 0 0), (.ref 84), (.int 46 0), (.int 0 0), (.ref 91), (.int 50 0), (.int 0 0), (.ref 98), (.int 58 0), (.int 0 0), (.ref 105), (.int 60 0), (.int 0 0), (.ref 112), (.int 62 0), (.int 0 0), (.ref 119), (.int 66 0), (.int 0 0), (.ref 126), (.int 69 0), (.int 0 0), (.ref 133), (.int 76 0), (.int 0 0), (.ref 140), (.int 81 0), (.int 0 0), (.ref 147), (.int 86 0), (.int 0 0), (.ref 154), (.int 89 0), (.int 0 0), (.ref 159)]), #[]⟩
noncomputable def o88_1 : Obj := oV ["codes", "column", "width", "code"] 288
noncomputable def o90_1 : Obj := oN "column_of_codes" "column_of_codes" (dA 17)
noncomputable def o91_1 : Obj := oC "column_of_codes" 285 46 3 86 87 .none (.ref 88) (.ref 89) (.ref 90) 292
noncomputable def o92_1 : Obj := oU "column_of_codes" "column_of_codes" (dA 17) "emacs.columns" 272 91
noncomputable def o95_1 : Obj := oV ["view", "place", "width", "column", "at"] 298
noncomputable def o97_1 : Obj := oN "column_at" "column_at" (dA 18)
noncomputable def o98_1 : Obj := oC "column_at" 295 50 3 93 94 .none (.ref 95) (.ref 96) (.ref 97) 303
noncomputable def o99_1 : Obj := oU "column_at" "column_at" (dA 18) "emacs.columns" 272 98
noncomputable def o102_1 : Obj := oV ["view", "place", "is_backward"] 315
noncomputable def o104_1 : Obj := oN "horizontal_edit" "horizontal_edit" (dA 22)
noncomputable def o105_1 : Obj := oC "horizontal_edit" 312 58 3 100 101 .none (.ref 102) (.ref 103) (.ref 104) 318
noncomputable def o106_1 : Obj := oU "horizontal_edit" "horizontal_edit" (dA 22) "emacs.deletion" 306 105
noncomputable def o109_1 : Obj := oV ["view", "place", "many"] 324
noncomputable def o111_1 : Obj := oN "just_edit" "just_edit" (dA 23)
noncomputable def o112_1 : Obj := oC "just_edit" 321 60 3 107 108 .none (.ref 109) (.ref 110) (.ref 111) 327
noncomputable def o113_1 : Obj := oU "just_edit" "just_edit" (dA 23) "emacs.deletion" 306 112
noncomputable def o116_1 : Obj := oV ["view", "table", "start", "end"] 333
noncomputable def o118_1 : Obj := oN "wants_space" "wants_space" (dA 24)
noncomputable def o119_1 : Obj := oC "wants_space" 330 62 4 114 115 .none (.ref 116) (.ref 117) (.ref 118) 337
noncomputable def o120_1 : Obj := oU "wants_space" "wants_space" (dA 24) "emacs.deletion" 306 119
noncomputable def o123_1 : Obj := oV ["view", "table", "place", "start", "end"] 343
noncomputable def o125_1 : Obj := oN "fixup_edit" "fixup_edit" (dA 25)
noncomputable def o126_1 : Obj := oC "fixup_edit" 340 66 3 121 122 .none (.ref 123) (.ref 124) (.ref 125) 348
noncomputable def o127_1 : Obj := oU "fixup_edit" "fixup_edit" (dA 25) "emacs.deletion" 306 126
noncomputable def o130_1 : Obj := oV ["view", "table", "place", "newline", "at", "start", "end"] 354
noncomputable def o132_1 : Obj := oN "join_edit" "join_edit" (dA 26)
noncomputable def o133_1 : Obj := oC "join_edit" 351 69 3 128 129 .none (.ref 130) (.ref 131) (.ref 132) 361
noncomputable def o134_1 : Obj := oU "join_edit" "join_edit" (dA 26) "emacs.deletion" 306 133
noncomputable def o137_1 : Obj := oV ["view", "place", "first"] 367
noncomputable def o139_1 : Obj := oN "blank_run" "blank_run" (dA 27)
noncomputable def o140_1 : Obj := oC "blank_run" 364 76 2 135 136 .none (.ref 137) (.ref 138) (.ref 139) 370
noncomputable def o141_1 : Obj := oU "blank_run" "blank_run" (dA 27) "emacs.deletion" 306 140
noncomputable def o144_1 : Obj := oV ["view", "place", "at"] 376
noncomputable def o146_1 : Obj := oN "behind_blanks" "behind_blanks" (dA 28)
noncomputable def o147_1 : Obj := oC "behind_blanks" 373 81 2 142 143 .none (.ref 144) (.ref 145) (.ref 146) 379
noncomputable def o148_1 : Obj := oU "behind_blanks" "behind_blanks" (dA 28) "emacs.deletion" 306 147
noncomputable def o151_1 : Obj := oV ["view", "place", "at"] 385
noncomputable def o153_1 : Obj := oN "line_behind" "line_behind" (dA 29)
noncomputable def o154_1 : Obj := oC "line_behind" 382 86 2 149 150 .none (.ref 151) (.ref 152) (.ref 153) 388
noncomputable def o155_1 : Obj := oU "line_behind" "line_behind" (dA 29) "emacs.deletion" 306 154
noncomputable def o158_1 : Obj := oN "blank_lines_edits" "blank_lines_edits" (dA 30)
noncomputable def o159_1 : Obj := oC "blank_lines_edits" 391 89 2 156 157 .none .none .none (.ref 158) 394
noncomputable def o160_1 : Obj := oU "blank_lines_edits" "blank_lines_edits" (dA 30) "emacs.deletion" 306 159
noncomputable def t_1 (P : Params) : BT := (.node (boot_o_0 P) (.node (boot_o_1 P) (.node (o3_1 P) (.node (boot_o_7 P) (.node oT (.node oF (.node o63_0 (lE o127_1) .nil) (.node o95_1 (lE o159_1) .nil)) (.node oT (.node oT (lE oF) .nil) (lE o111_1))) (.node oT (.node o39_0 (.node o71_0 (lE oT) .nil) (lE oT)) (.node o55_0 (.node oF (lE o151_1) .nil) (lE o119_1)))) (.node oT (.node o19_0 (.node o35_0 (.node o67_0 (lE oT) .nil) (lE o99_1)) (.node oT (.node o83_0 (lE o147_1) .nil) (lE oF))) (.node o27_0 (.node o43_0 (.node oT (lE o139_1) .nil) (lE oT)) (.node oF (.node o91_1 (lE o155_1) .nil) (lE o123_1))))) (.node (boot_o_5 P) (.node (boot_o_9 P) (.node o17_0 (.node oT (.node oT (lE oF) .nil) (lE o97_1)) (.node o49_0 (.node o81_0 (lE oT) .nil) (lE o113_1))) (.node o25_0 (.node o41_0 (.node oF (lE o137_1) .nil) (lE o105_1)) (.node o57_0 (.node oT (lE o153_1) .nil) (lE oT)))) (.node o13_a (.node o21_0 (.node oT (.node o69_0 (lE o133_1) .nil) (lE oF)) (.node o53_0 (.node o85_0 (lE oT) .nil) (lE oT))) (.node o29_0 (.node oF (.node o77_0 (lE o141_1) .nil) (lE o109_1)) (.node oT (.node oT (lE oF) .nil) (lE o125_1)))))) (.node (boot_o_2 P) (.node (boot_o_4 P) (.node (boot_o_8 P) (.node oF (.node o32_0 (.node o64_0 (lE oT) .nil) (.node oT (lE o160_1) .nil)) (.node o48_0 (.node oF (lE o144_1) .nil) (lE o112_1))) (.node oF (.node oT (.node oT (lE oF) .nil) (lE o104_1)) (.node o56_0 (.node o88_1 (lE oT) .nil) (lE o120_1)))) (.node o12_1 (.node o20_0 (.node o36_0 (.node oT (lE o132_1) .nil) (lE oT)) (.node oF (.node o84_0 (lE o148_1) .nil) (lE o116_1))) (.node o28_0 (.node oT (.node o76_0 (lE o140_1) .nil) (lE oF)) (.node o60_0 (.node o92_1 (lE oT) .nil) (lE oT))))) (.node (boot_o_6 P) (.node (boot_o_10 P) (.node oT (.node o34_0 (.node oF (lE o130_1) .nil) (lE o98_1)) (.node o50_0 (.node oT (lE o146_1) .nil) (lE oT))) (.node oT (.node o42_0 (.node o74_0 (lE oT) .nil) (lE o106_1)) (.node oT (.node o90_1 (lE o154_1) .nil) (lE oF)))) (.node o14_a (.node o22_0 (.node oF (.node o70_0 (lE o134_1) .nil) (lE o102_1)) (.node oT (.node oT (lE oF) .nil) (lE o118_1))) (.node oT (.node o46_0 (.node o78_0 (lE oT) .nil) (lE oT)) (.node o62_0 (.node oF (lE o158_1) .nil) (lE o126_1)))))))
noncomputable def o2_2 (P : Params) : Obj := ⟨.none, none, (.dict #[(eD P (tS "type.__subclasses__.Exception.0") 468 (.int 205 0)), (eD P (tS "type.__subclasses__.Exception.n") 469 (.int 1 0))] 2), #[]⟩
noncomputable def o3_2 (P : Params) : Obj := ⟨(.type "dict"), none, (.dict #[(eD P (tS "__name__") 165 (.str (tS "emacs.syntax") 472)), (eD P (tS "__doc__") 166 .none), (eD P (tS "__package__") 167 .none), (eD P (tS "__loader__") 168 (.builtin "__main__.__loader__#opaque")), (eD P (tS "__spec__") 169 .none), (eD P (tS "__annotations__") 170 (.ref 6)), (eD P (tS "__builtins__") 171 (.ref 4)), (eD P (tS "__file__") 173 (.str (tS "/claim/cut.py") 172)), (eD P (tS "__cached__") 174 .none), (eD P (tS "_wall") 193 (.ref 21)), (eD P (tS "NEWLINE") 197 (.int 10 196)), (eD P (tS "SPACE") 199 (.int 32 198)), (eD P (tS "TAB") 201 (.int 9 200)), (eD P (tS "BLANKS") 202 (.ref 22)), (eD P (tS "line_start") 211 (.ref 29)), (eD P (tS "line_end") 220 (.ref 36)), (eD P (tS "next_start") 229 (.ref 43)), (eD P (tS "blanks_end") 238 (.ref 50)), (eD P (tS "blanks_begin") 247 (.ref 57)), (eD P (tS "is_line_begin") 255 (.ref 64)), (eD P (tS "is_line_end") 263 (.ref 71)), (eD P (tS "is_blank_line") 271 (.ref 78)), (eD P (tS "DELETE") 275 (.int 127 274)), (eD P (tS "width_at") 284 (.ref 85)), (eD P (tS "column_of_codes") 294 (.ref 92)), (eD P (tS "column_at") 305 (.ref 99)), (eD P (tS "OPENS") 309 (.str (tS "('") 308)), (eD P (tS "CLOSES") 311 (.str (tS ")") 310)), (eD P (tS "horizontal_edit") 320 (.ref 106)), (eD P (tS "just_edit") 329 (.ref 113)), (eD P (tS "wants_space") 339 (.ref 120)), (eD P (tS "fixup_edit") 350 (.ref 127)), (eD P (tS "join_edit") 363 (.ref 134)), (eD P (tS "blank_run") 372 (.ref 141)), (eD P (tS "behind_blanks") 381 (.ref 148)), (eD P (tS "line_behind") 390 (.ref 155)), (eD P (tS "blank_lines_edits") 396 (.ref 160)), (eD P (tS "trailing_edits") 408 (.ref 167)), (eD P (tS "untabified") 418 (.ref 174)), (eD P (tS "backward_edit") 427 (.ref 181)), (eD P (tS "zap_end") 438 (.ref 188)), (eD P (tS "LispSignal") 471 (.ref 205)), (eD P (tS "WHITESPACE") 475 (.str (tS " ") 474)), (eD P (tS "WORD") 477 (.str (tS "w") 476))] 44), #[]⟩
noncomputable def o12_2 : Obj := ⟨.none, none, (.fields #[(.int 1 0), (.int 0 0), (.ref 20), (.int 9 0), (.int 0 0), (.ref 28), (.int 14 0), (.int 0 0), (.ref 35), (.int 19 0), (.int 0 0), (.ref 42), (.int 22 0), (.int 0 0), (.ref 49), (.int 27 0), (.int 0 0), (.ref 56), (.int 32 0), (.int 0 0), (.ref 63), (.int 34 0), (.int 0 0), (.ref 70), (.int 36 0), (.int 0 0), (.ref 77), (.int 40 0), (.int 0 0), (.ref 84), (.int 46 0), (.int 0 0), (.ref 91), (.int 50 0), (.int 0 0), (.ref 98), (.int 58 0), (.int 0 0), (.ref 105), (.int 60 0), (.int 0 0), (.ref 112), (.int 62 0), (.int 0 0), (.ref 119), (.int 66 0), (.int 0 0), (.ref 126), (.int 69 0), (.int 0 0), (.ref 133), (.int 76 0), (.int 0 0), (.ref 140), (.int 81 0), (.int 0 0), (.ref 147), (.int 86 0), (.int 0 0), (.ref 154), (.int 89 0), (.int 0 0), (.ref 159), (.int 100 0), (.int 0 0), (.ref 166), (.int 109 0), (.int 0 0), (.ref 173), (.int 112 0), (.int 0 0), (.ref 180), (.int 116 0), (.int 0 0), (.ref 187), (.int 134 0), (.int 0 0), (.ref 194)]), #[]⟩
noncomputable def o163_2 : Obj := oV ["view", "start", "end", "found", "last", "first"] 400
noncomputable def o165_2 : Obj := oN "trailing_edits" "trailing_edits" (dA 31)
noncomputable def o166_2 : Obj := oC "trailing_edits" 397 100 3 161 162 .none (.ref 163) (.ref 164) (.ref 165) 406
noncomputable def o167_2 : Obj := oU "trailing_edits" "trailing_edits" (dA 31) "emacs.deletion" 306 166
noncomputable def o170_2 : Obj := oV ["view", "place", "width", "column"] 412
noncomputable def o172_2 : Obj := oN "untabified" "untabified" (dA 32)
noncomputable def o173_2 : Obj := oC "untabified" 409 109 3 168 169 .none (.ref 170) (.ref 171) (.ref 172) 416
noncomputable def o174_2 : Obj := oU "untabified" "untabified" (dA 32) "emacs.deletion" 306 173
noncomputable def o177_2 : Obj := oV ["view", "place", "width"] 422
noncomputable def o179_2 : Obj := oN "backward_edit" "backward_edit" (dA 33)
noncomputable def o180_2 : Obj := oC "backward_edit" 419 112 3 175 176 .none (.ref 177) (.ref 178) (.ref 179) 425
noncomputable def o181_2 : Obj := oU "backward_edit" "backward_edit" (dA 33) "emacs.deletion" 306 180
noncomputable def o184_2 : Obj := oV ["view", "place", "code", "many", "at"] 431
noncomputable def o186_2 : Obj := oN "zap_end" "zap_end" (dA 34)
noncomputable def o187_2 : Obj := oC "zap_end" 428 116 4 182 183 .none (.ref 184) (.ref 185) (.ref 186) 436
noncomputable def o188_2 : Obj := oU "zap_end" "zap_end" (dA 34) "emacs.deletion" 306 187
noncomputable def o189_2 : Obj := ⟨(.type "tuple"), none, (.seq #[(.type "Exception")] 0), #[]⟩
noncomputable def o190_2 : Obj := ⟨(.type "builtin_function_or_method"), none, (.fields #[(.builtin "type.__prepare__"), (.type "type")]), #[]⟩
noncomputable def o191_2 (P : Params) : Obj := ⟨(.type "dict"), none, (.dict #[(eD P (tS "__module__") 448 (.str (tS "emacs.errors") 439)), (eD P (tS "__qualname__") 450 (.str (tS "LispSignal") 449)), (eD P (tS "__firstlineno__") 452 (.int 134 451)), (eD P (tS "__init__") 461 (.ref 202)), (eD P (tS "__static_attributes__") 464 (.ref 203))] 5), #[]⟩
noncomputable def o193_2 : Obj := ⟨.none, none, (.fields #[(.int 136 0), (.int 4 0), (.ref 201)]), #[]⟩
noncomputable def o194_2 : Obj := ⟨(.type "code"), none, (.fields #[(.str (tS "LispSignal") 443), (.str (tS "LispSignal") 444), (.str (tS "/claim/cut.py") 445), (.int 134 0), (.int 0 0), (.int 0 0), (.int 0 0), (.int 0 0), (.ref 192), (.bool false), (.int 181 0), (.ref 193), .none, .none, .none, .none, (.int 446 0), (.int 134 0), (.str (tS "/claim/cut.py") 447)]), #[]⟩
noncomputable def o195_2 : Obj := ⟨(.type "frame"), none, .plain, #[(some (.ref 194)), (some (.ref 3)), (some (.ref 191)), none, (some (.str (tS "emacs.errors") 439)), none, (some (.ref 0))]⟩
noncomputable def o198_2 : Obj := oV ["self", "symbol", "data"] 456
noncomputable def o200_2 : Obj := oN "__init__" "LispSignal.__init__" (dM 36 0)
noncomputable def o201_2 : Obj := ⟨(.type "code"), none, (.fields #[(.str (tS "__init__") 453), (.str (tS "LispSignal.__init__") 454), (.str (tS "/claim/cut.py") 455), (.int 136 0), (.int 3 0), (.int 0 0), (.int 0 0), (.int 3 0), (.ref 196), (.bool true), (.int 181 0), (.ref 197), .none, (.ref 198), (.ref 199), (.ref 200), (.int 459 0), (.int 136 0), (.str (tS "/claim/cut.py") 460)]), #[]⟩
noncomputable def o202_2 : Obj := oU "__init__" "LispSignal.__init__" (dM 36 0) "emacs.errors" 439 201
noncomputable def o203_2 : Obj := oV ["data", "symbol"] 462
noncomputable def o204_2 (P : Params) : Obj := ⟨(.type "dict"), none, (.dict #[(eD P (tS "__module__") 448 (.str (tS "emacs.errors") 439)), (eD P (tS "__firstlineno__") 452 (.int 134 451)), (eD P (tS "__init__") 461 (.ref 202)), (eD P (tS "__static_attributes__") 464 (.ref 203)), (eD P (tS "__weakref__") 466 (.ref 206)), (eD P (tS "__doc__") 467 .none)] 3), #[]⟩
noncomputable def o205_2 : Obj := ⟨(.type "type"), none, (.cls ⟨(tS "LispSignal"), [(.type "Exception")], [(.ref 205), (.type "Exception"), (.type "BaseException"), (.type "object")], 204, (tS "LispSignal"), true, [], [], false, none, false⟩), #[(some (.ref 189)), none, (some (.str (tS "LispSignal") 441)), (some (.str (tS "LispSignal") 449)), (some (.builtin "Exception.__new__")), (some (.bool true))]⟩
noncomputable def o206_2 : Obj := ⟨(.type "getset_descriptor"), none, (.fields #[(.str (tS "__weakref__") 465), (.ref 205), (.builtin "ExceptionGroup.__weakref__"), .none]), #[]⟩
noncomputable def o207_2 : Obj := ⟨(.type "super"), none, (.fields #[(.ref 205), (.ref 205), (.ref 205)]), #[]⟩
noncomputable def o208_2 : Obj := ⟨(.type "builtin_function_or_method"), none, (.fields #[(.builtin "object.__init_subclass__"), (.ref 205)]), #[]⟩
noncomputable def t_2 (P : Params) : BT := (.node (boot_o_0 P) (.node (boot_o_1 P) (.node (o3_2 P) (.node (boot_o_7 P) (.node oT (.node oF (.node o63_0 (lE o127_1) (lE (o191_2 P))) (.node o95_1 (lE o159_1) .nil)) (.node oT (.node oT (lE oF) (lE o207_2)) (.node o111_1 (lE oT) .nil))) (.node oT (.node o39_0 (.node o71_0 (lE oT) (lE oT)) (.node oT (lE o167_2) .nil)) (.node o55_0 (.node oF (lE o151_1) .nil) (.node o119_1 (lE oF) .nil)))) (.node oT (.node o19_0 (.node o35_0 (.node o67_0 (lE oT) (lE o195_2)) (.node o99_1 (lE o163_2) .nil)) (.node oT (.node o83_0 (lE o147_1) .nil) (.node oF (lE o179_2) .nil))) (.node o27_0 (.node o43_0 (.node oT (lE o139_1) (lE o203_2)) (.node oT (lE oT) .nil)) (.node oF (.node o91_1 (lE o155_1) .nil) (.node o123_1 (lE o187_2) .nil))))) (.node (boot_o_5 P) (.node (boot_o_9 P) (.node o17_0 (.node oT (.node oT (lE oF) (lE o193_2)) (.node o97_1 (lE oT) .nil)) (.node o49_0 (.node o81_0 (lE oT) .nil) (.node o113_1 (lE o177_2) .nil))) (.node o25_0 (.node o41_0 (.node oF (lE o137_1) (lE o201_2)) (.node o105_1 (lE oF) .nil)) (.node o57_0 (.node oT (lE o153_1) .nil) (.node oT (lE oT) .nil)))) (.node o13_a (.node o21_0 (.node oT (.node o69_0 (lE o133_1) (lE oF)) (.node oF (lE o165_2) .nil)) (.node o53_0 (.node o85_0 (lE oT) .nil) (.node oT (lE o181_2) .nil))) (.node o29_0 (.node oF (.node o77_0 (lE o141_1) (lE o205_2)) (.node o109_1 (lE o173_2) .nil)) (.node oT (.node oT (lE oF) .nil) (.node o125_1 (lE o189_2) .nil)))))) (.node (o2_2 P) (.node (boot_o_4 P) (.node (boot_o_8 P) (.node oF (.node o32_0 (.node o64_0 (lE oT) (lE oT)) (.node oT (lE o160_1) .nil)) (.node o48_0 (.node oF (lE o144_1) (lE o208_2)) (.node o112_1 (lE oF) .nil))) (.node oF (.node oT (.node oT (lE oF) (lE o200_2)) (.node o104_1 (lE oT) .nil)) (.node o56_0 (.node o88_1 (lE oT) .nil) (.node o120_1 (lE o184_2) .nil)))) (.node o12_2 (.node o20_0 (.node o36_0 (.node oT (lE o132_1) (lE oT)) (.node oT (lE oT) .nil)) (.node oF (.node o84_0 (lE o148_1) .nil) (.node o116_1 (lE o180_2) .nil))) (.node o28_0 (.node oT (.node o76_0 (lE o140_1) (lE (o204_2 P))) (.node oF (lE o172_2) .nil)) (.node o60_0 (.node o92_1 (lE oT) .nil) (.node oT (lE o188_2) .nil))))) (.node (boot_o_6 P) (.node (boot_o_10 P) (.node oT (.node o34_0 (.node oF (lE o130_1) (lE o194_2)) (.node o98_1 (lE oF) .nil)) (.node o50_0 (.node oT (lE o146_1) .nil) (.node oT (lE oT) .nil))) (.node oT (.node o42_0 (.node o74_0 (lE oT) (lE o202_2)) (.node o106_1 (lE o170_2) .nil)) (.node oT (.node o90_1 (lE o154_1) .nil) (.node oF (lE o186_2) .nil)))) (.node o14_a (.node o22_0 (.node oF (.node o70_0 (lE o134_1) (lE o198_2)) (.node o102_1 (lE o166_2) .nil)) (.node oT (.node oT (lE oF) .nil) (.node o118_1 (lE oT) .nil))) (.node oT (.node o46_0 (.node o78_0 (lE oT) (lE o206_2)) (.node oT (lE o174_2) .nil)) (.node o62_0 (.node oF (lE o158_1) .nil) (.node o126_1 (lE o190_2) .nil)))))))
noncomputable def o3_3 (P : Params) : Obj := ⟨(.type "dict"), none, (.dict #[(eD P (tS "__name__") 165 (.str (tS "emacs.syntax") 472)), (eD P (tS "__doc__") 166 .none), (eD P (tS "__package__") 167 .none), (eD P (tS "__loader__") 168 (.builtin "__main__.__loader__#opaque")), (eD P (tS "__spec__") 169 .none), (eD P (tS "__annotations__") 170 (.ref 6)), (eD P (tS "__builtins__") 171 (.ref 4)), (eD P (tS "__file__") 173 (.str (tS "/claim/cut.py") 172)), (eD P (tS "__cached__") 174 .none), (eD P (tS "_wall") 193 (.ref 21)), (eD P (tS "NEWLINE") 197 (.int 10 196)), (eD P (tS "SPACE") 199 (.int 32 198)), (eD P (tS "TAB") 201 (.int 9 200)), (eD P (tS "BLANKS") 202 (.ref 22)), (eD P (tS "line_start") 211 (.ref 29)), (eD P (tS "line_end") 220 (.ref 36)), (eD P (tS "next_start") 229 (.ref 43)), (eD P (tS "blanks_end") 238 (.ref 50)), (eD P (tS "blanks_begin") 247 (.ref 57)), (eD P (tS "is_line_begin") 255 (.ref 64)), (eD P (tS "is_line_end") 263 (.ref 71)), (eD P (tS "is_blank_line") 271 (.ref 78)), (eD P (tS "DELETE") 275 (.int 127 274)), (eD P (tS "width_at") 284 (.ref 85)), (eD P (tS "column_of_codes") 294 (.ref 92)), (eD P (tS "column_at") 305 (.ref 99)), (eD P (tS "OPENS") 309 (.str (tS "('") 308)), (eD P (tS "CLOSES") 311 (.str (tS ")") 310)), (eD P (tS "horizontal_edit") 320 (.ref 106)), (eD P (tS "just_edit") 329 (.ref 113)), (eD P (tS "wants_space") 339 (.ref 120)), (eD P (tS "fixup_edit") 350 (.ref 127)), (eD P (tS "join_edit") 363 (.ref 134)), (eD P (tS "blank_run") 372 (.ref 141)), (eD P (tS "behind_blanks") 381 (.ref 148)), (eD P (tS "line_behind") 390 (.ref 155)), (eD P (tS "blank_lines_edits") 396 (.ref 160)), (eD P (tS "trailing_edits") 408 (.ref 167)), (eD P (tS "untabified") 418 (.ref 174)), (eD P (tS "backward_edit") 427 (.ref 181)), (eD P (tS "zap_end") 438 (.ref 188)), (eD P (tS "LispSignal") 471 (.ref 205)), (eD P (tS "WHITESPACE") 475 (.str (tS " ") 474)), (eD P (tS "WORD") 477 (.str (tS "w") 476)), (eD P (tS "PUNCTUATION") 479 (.str (tS ".") 478)), (eD P (tS "INHERITS") 481 (.str (tS "@") 480)), (eD P (tS "KINDS") 483 (.str (tS " w_.()'\"\\/$<>@!|") 482)), (eD P (tS "FLAGS") 485 (.str (tS "1234bcnp") 484)), (eD P (tS "Syntax") 547 (.ref 253))] 49), #[]⟩
noncomputable def o12_3 : Obj := ⟨.none, none, (.fields #[(.int 1 0), (.int 0 0), (.ref 20), (.int 9 0), (.int 0 0), (.ref 28), (.int 14 0), (.int 0 0), (.ref 35), (.int 19 0), (.int 0 0), (.ref 42), (.int 22 0), (.int 0 0), (.ref 49), (.int 27 0), (.int 0 0), (.ref 56), (.int 32 0), (.int 0 0), (.ref 63), (.int 34 0), (.int 0 0), (.ref 70), (.int 36 0), (.int 0 0), (.ref 77), (.int 40 0), (.int 0 0), (.ref 84), (.int 46 0), (.int 0 0), (.ref 91), (.int 50 0), (.int 0 0), (.ref 98), (.int 58 0), (.int 0 0), (.ref 105), (.int 60 0), (.int 0 0), (.ref 112), (.int 62 0), (.int 0 0), (.ref 119), (.int 66 0), (.int 0 0), (.ref 126), (.int 69 0), (.int 0 0), (.ref 133), (.int 76 0), (.int 0 0), (.ref 140), (.int 81 0), (.int 0 0), (.ref 147), (.int 86 0), (.int 0 0), (.ref 154), (.int 89 0), (.int 0 0), (.ref 159), (.int 100 0), (.int 0 0), (.ref 166), (.int 109 0), (.int 0 0), (.ref 173), (.int 112 0), (.int 0 0), (.ref 180), (.int 116 0), (.int 0 0), (.ref 187), (.int 134 0), (.int 0 0), (.ref 194), (.int 146 0), (.int 0 0), (.ref 214)]), #[]⟩
noncomputable def o210_3 : Obj := ⟨(.type "builtin_function_or_method"), none, (.fields #[(.builtin "type.__prepare__"), (.type "type")]), #[]⟩
noncomputable def o211_3 (P : Params) : Obj := ⟨(.type "dict"), none, (.dict #[(eD P (tS "__module__") 493 (.str (tS "emacs.syntax") 472)), (eD P (tS "__qualname__") 495 (.str (tS "Syntax") 494)), (eD P (tS "__firstlineno__") 497 (.int 146 496)), (eD P (tS "__init__") 507 (.ref 222)), (eD P (tS "has") 515 (.ref 229)), (eD P (tS "is_escape") 522 (.ref 236)), (eD P (tS "is_word_part") 529 (.ref 243)), (eD P (tS "style") 536 (.ref 250)), (eD P (tS "__static_attributes__") 540 (.ref 251))] 9), #[]⟩
noncomputable def o213_3 : Obj := ⟨.none, none, (.fields #[(.int 148 0), (.int 4 0), (.ref 221), (.int 153 0), (.int 4 0), (.ref 228), (.int 156 0), (.int 4 0), (.ref 235), (.int 159 0), (.int 4 0), (.ref 242), (.int 162 0), (.int 4 0), (.ref 249)]), #[]⟩
noncomputable def o214_3 : Obj := ⟨(.type "code"), none, (.fields #[(.str (tS "Syntax") 488), (.str (tS "Syntax") 489), (.str (tS "/claim/cut.py") 490), (.int 146 0), (.int 0 0), (.int 0 0), (.int 0 0), (.int 0 0), (.ref 212), (.bool false), (.int 181 0), (.ref 213), .none, .none, .none, .none, (.int 491 0), (.int 146 0), (.str (tS "/claim/cut.py") 492)]), #[]⟩
noncomputable def o215_3 : Obj := ⟨(.type "frame"), none, .plain, #[(some (.ref 214)), (some (.ref 3)), (some (.ref 211)), none, (some (.str (tS "emacs.syntax") 472)), none, (some (.ref 0))]⟩
noncomputable def o218_3 : Obj := oV ["self", "kind", "match", "flags"] 501
noncomputable def o220_3 : Obj := oN "__init__" "Syntax.__init__" (dM 44 0)
noncomputable def o221_3 : Obj := ⟨(.type "code"), none, (.fields #[(.str (tS "__init__") 498), (.str (tS "Syntax.__init__") 499), (.str (tS "/claim/cut.py") 500), (.int 148 0), (.int 4 0), (.int 0 0), (.int 0 0), (.int 3 0), (.ref 216), (.bool true), (.int 181 0), (.ref 217), .none, (.ref 218), (.ref 219), (.ref 220), (.int 505 0), (.int 148 0), (.str (tS "/claim/cut.py") 506)]), #[]⟩
noncomputable def o222_3 : Obj := oU "__init__" "Syntax.__init__" (dM 44 0) "emacs.syntax" 472 221
noncomputable def o225_3 : Obj := oV ["self", "flag"] 511
noncomputable def o227_3 : Obj := oN "has" "Syntax.has" (dM 44 1)
noncomputable def o228_3 : Obj := ⟨(.type "code"), none, (.fields #[(.str (tS "has") 508), (.str (tS "Syntax.has") 509), (.str (tS "/claim/cut.py") 510), (.int 153 0), (.int 2 0), (.int 0 0), (.int 0 0), (.int 3 0), (.ref 223), (.bool true), (.int 181 0), (.ref 224), .none, (.ref 225), (.ref 226), (.ref 227), (.int 513 0), (.int 153 0), (.str (tS "/claim/cut.py") 514)]), #[]⟩
noncomputable def o229_3 : Obj := oU "has" "Syntax.has" (dM 44 1) "emacs.syntax" 472 228
noncomputable def o232_3 : Obj := oV ["self"] 519
noncomputable def o234_3 : Obj := oN "is_escape" "Syntax.is_escape" (dM 44 2)
noncomputable def o235_3 : Obj := ⟨(.type "code"), none, (.fields #[(.str (tS "is_escape") 516), (.str (tS "Syntax.is_escape") 517), (.str (tS "/claim/cut.py") 518), (.int 156 0), (.int 1 0), (.int 0 0), (.int 0 0), (.int 3 0), (.ref 230), (.bool true), (.int 181 0), (.ref 231), .none, (.ref 232), (.ref 233), (.ref 234), (.int 520 0), (.int 156 0), (.str (tS "/claim/cut.py") 521)]), #[]⟩
noncomputable def o236_3 : Obj := oU "is_escape" "Syntax.is_escape" (dM 44 2) "emacs.syntax" 472 235
noncomputable def o239_3 : Obj := oV ["self"] 526
noncomputable def o241_3 : Obj := oN "is_word_part" "Syntax.is_word_part" (dM 44 3)
noncomputable def o242_3 : Obj := ⟨(.type "code"), none, (.fields #[(.str (tS "is_word_part") 523), (.str (tS "Syntax.is_word_part") 524), (.str (tS "/claim/cut.py") 525), (.int 159 0), (.int 1 0), (.int 0 0), (.int 0 0), (.int 3 0), (.ref 237), (.bool true), (.int 181 0), (.ref 238), .none, (.ref 239), (.ref 240), (.ref 241), (.int 527 0), (.int 159 0), (.str (tS "/claim/cut.py") 528)]), #[]⟩
noncomputable def o243_3 : Obj := oU "is_word_part" "Syntax.is_word_part" (dM 44 3) "emacs.syntax" 472 242
noncomputable def o246_3 : Obj := oV ["self"] 533
noncomputable def o248_3 : Obj := oN "style" "Syntax.style" (dM 44 4)
noncomputable def o249_3 : Obj := ⟨(.type "code"), none, (.fields #[(.str (tS "style") 530), (.str (tS "Syntax.style") 531), (.str (tS "/claim/cut.py") 532), (.int 162 0), (.int 1 0), (.int 0 0), (.int 0 0), (.int 3 0), (.ref 244), (.bool true), (.int 181 0), (.ref 245), .none, (.ref 246), (.ref 247), (.ref 248), (.int 534 0), (.int 162 0), (.str (tS "/claim/cut.py") 535)]), #[]⟩
noncomputable def o250_3 : Obj := oU "style" "Syntax.style" (dM 44 4) "emacs.syntax" 472 249
noncomputable def o251_3 : Obj := oV ["flags", "kind", "match"] 537
noncomputable def o252_3 (P : Params) : Obj := ⟨(.type "dict"), none, (.dict #[(eD P (tS "__module__") 493 (.str (tS "emacs.syntax") 472)), (eD P (tS "__firstlineno__") 497 (.int 146 496)), (eD P (tS "__init__") 507 (.ref 222)), (eD P (tS "has") 515 (.ref 229)), (eD P (tS "is_escape") 522 (.ref 236)), (eD P (tS "is_word_part") 529 (.ref 243)), (eD P (tS "style") 536 (.ref 250)), (eD P (tS "__static_attributes__") 540 (.ref 251)), (eD P (tS "__dict__") 542 (.ref 254)), (eD P (tS "__weakref__") 544 (.ref 255)), (eD P (tS "__doc__") 545 .none)] 4), #[]⟩
noncomputable def o253_3 : Obj := ⟨(.type "type"), none, (.cls ⟨(tS "Syntax"), [(.type "object")], [(.ref 253), (.type "object")], 252, (tS "Syntax"), true, [], [], false, none, false⟩), #[none, none, (some (.str (tS "Syntax") 486)), (some (.str (tS "Syntax") 494)), (some (.builtin "object.__new__")), (some (.bool true))]⟩
noncomputable def o254_3 : Obj := ⟨(.type "getset_descriptor"), none, (.fields #[(.str (tS "__dict__") 541), (.ref 253), (.builtin "function.__dict__"), (.builtin "function.__dict__#set")]), #[]⟩
noncomputable def o255_3 : Obj := ⟨(.type "getset_descriptor"), none, (.fields #[(.str (tS "__weakref__") 543), (.ref 253), (.builtin "ExceptionGroup.__weakref__"), .none]), #[]⟩
noncomputable def o256_3 : Obj := ⟨(.type "super"), none, (.fields #[(.ref 253), (.ref 253), (.ref 253)]), #[]⟩
noncomputable def o257_3 : Obj := ⟨(.type "builtin_function_or_method"), none, (.fields #[(.builtin "object.__init_subclass__"), (.ref 253)]), #[]⟩
noncomputable def t_3 (P : Params) : BT := (.node (boot_o_0 P) (.node (boot_o_1 P) (.node (o3_3 P) (.node (boot_o_7 P) (.node oT (.node oF (.node o63_0 (.node o127_1 (lE o255_3) .nil) (lE (o191_2 P))) (.node o95_1 (lE o159_1) (lE oT))) (.node oT (.node oT (lE oF) (lE o207_2)) (.node o111_1 (lE oT) (lE o239_3)))) (.node oT (.node o39_0 (.node o71_0 (lE oT) (lE oT)) (.node oT (lE o167_2) (lE oF))) (.node o55_0 (.node oF (lE o151_1) (lE o215_3)) (.node o119_1 (lE oF) (lE oT))))) (.node oT (.node o19_0 (.node o35_0 (.node o67_0 (lE oT) (lE o195_2)) (.node o99_1 (lE o163_2) (lE o227_3))) (.node oT (.node o83_0 (lE o147_1) (lE (o211_3 P))) (.node oF (lE o179_2) (lE o243_3)))) (.node o27_0 (.node o43_0 (.node oT (lE o139_1) (lE o203_2)) (.node oT (lE oT) (lE o235_3))) (.node oF (.node o91_1 (lE o155_1) (lE oT)) (.node o123_1 (lE o187_2) (lE o251_3)))))) (.node (boot_o_5 P) (.node (boot_o_9 P) (.node o17_0 (.node oT (.node oT (.node oF (lE o257_3) .nil) (lE o193_2)) (.node o97_1 (lE oT) (lE o225_3))) (.node o49_0 (.node o81_0 (lE oT) (lE oT)) (.node o113_1 (lE o177_2) (lE o241_3)))) (.node o25_0 (.node o41_0 (.node oF (lE o137_1) (lE o201_2)) (.node o105_1 (lE oF) (lE oT))) (.node o57_0 (.node oT (lE o153_1) (lE oF)) (.node oT (lE oT) (lE o249_3))))) (.node o13_a (.node o21_0 (.node oT (.node o69_0 (lE o133_1) (lE oF)) (.node oF (lE o165_2) (lE o229_3))) (.node o53_0 (.node o85_0 (lE oT) (lE o213_3)) (.node oT (lE o181_2) (lE oF)))) (.node o29_0 (.node oF (.node o77_0 (lE o141_1) (lE o205_2)) (.node o109_1 (lE o173_2) (lE oT))) (.node oT (.node oT (lE oF) (lE o221_3)) (.node o125_1 (lE o189_2) (lE o253_3))))))) (.node (o2_2 P) (.node (boot_o_4 P) (.node (boot_o_8 P) (.node oF (.node o32_0 (.node o64_0 (.node oT (lE o256_3) .nil) (lE oT)) (.node oT (lE o160_1) (lE oF))) (.node o48_0 (.node oF (lE o144_1) (lE o208_2)) (.node o112_1 (lE oF) (lE oT)))) (.node oF (.node oT (.node oT (lE oF) (lE o200_2)) (.node o104_1 (lE oT) (lE o232_3))) (.node o56_0 (.node o88_1 (lE oT) (lE oT)) (.node o120_1 (lE o184_2) (lE o248_3))))) (.node o12_3 (.node o20_0 (.node o36_0 (.node oT (lE o132_1) (lE oT)) (.node oT (lE oT) (lE o228_3))) (.node oF (.node o84_0 (lE o148_1) (lE oT)) (.node o116_1 (lE o180_2) (lE oT)))) (.node o28_0 (.node oT (.node o76_0 (lE o140_1) (lE (o204_2 P))) (.node oF (lE o172_2) (lE o236_3))) (.node o60_0 (.node o92_1 (lE oT) (lE o220_3)) (.node oT (lE o188_2) (lE (o252_3 P))))))) (.node (boot_o_6 P) (.node (boot_o_10 P) (.node oT (.node o34_0 (.node oF (lE o130_1) (lE o194_2)) (.node o98_1 (lE oF) (lE oT))) (.node o50_0 (.node oT (lE o146_1) (lE o210_3)) (.node oT (lE oT) (lE o242_3)))) (.node oT (.node o42_0 (.node o74_0 (lE oT) (lE o202_2)) (.node o106_1 (lE o170_2) (lE o234_3))) (.node oT (.node o90_1 (lE o154_1) (lE o218_3)) (.node oF (lE o186_2) (lE o250_3))))) (.node o14_a (.node o22_0 (.node oF (.node o70_0 (lE o134_1) (lE o198_2)) (.node o102_1 (lE o166_2) (lE oT))) (.node oT (.node oT (lE oF) (lE o214_3)) (.node o118_1 (lE oT) (lE o246_3)))) (.node oT (.node o46_0 (.node o78_0 (lE oT) (lE o206_2)) (.node oT (lE o174_2) (lE oF))) (.node o62_0 (.node oF (lE o158_1) (lE o222_3)) (.node o126_1 (lE o190_2) (lE o254_3))))))))
noncomputable def o3_4 (P : Params) : Obj := ⟨(.type "dict"), none, (.dict #[(eD P (tS "__name__") 165 (.str (tS "emacs.syntax") 472)), (eD P (tS "__doc__") 166 .none), (eD P (tS "__package__") 167 .none), (eD P (tS "__loader__") 168 (.builtin "__main__.__loader__#opaque")), (eD P (tS "__spec__") 169 .none), (eD P (tS "__annotations__") 170 (.ref 6)), (eD P (tS "__builtins__") 171 (.ref 4)), (eD P (tS "__file__") 173 (.str (tS "/claim/cut.py") 172)), (eD P (tS "__cached__") 174 .none), (eD P (tS "_wall") 193 (.ref 21)), (eD P (tS "NEWLINE") 197 (.int 10 196)), (eD P (tS "SPACE") 199 (.int 32 198)), (eD P (tS "TAB") 201 (.int 9 200)), (eD P (tS "BLANKS") 202 (.ref 22)), (eD P (tS "line_start") 211 (.ref 29)), (eD P (tS "line_end") 220 (.ref 36)), (eD P (tS "next_start") 229 (.ref 43)), (eD P (tS "blanks_end") 238 (.ref 50)), (eD P (tS "blanks_begin") 247 (.ref 57)), (eD P (tS "is_line_begin") 255 (.ref 64)), (eD P (tS "is_line_end") 263 (.ref 71)), (eD P (tS "is_blank_line") 271 (.ref 78)), (eD P (tS "DELETE") 275 (.int 127 274)), (eD P (tS "width_at") 284 (.ref 85)), (eD P (tS "column_of_codes") 294 (.ref 92)), (eD P (tS "column_at") 305 (.ref 99)), (eD P (tS "OPENS") 309 (.str (tS "('") 308)), (eD P (tS "CLOSES") 311 (.str (tS ")") 310)), (eD P (tS "horizontal_edit") 320 (.ref 106)), (eD P (tS "just_edit") 329 (.ref 113)), (eD P (tS "wants_space") 339 (.ref 120)), (eD P (tS "fixup_edit") 350 (.ref 127)), (eD P (tS "join_edit") 363 (.ref 134)), (eD P (tS "blank_run") 372 (.ref 141)), (eD P (tS "behind_blanks") 381 (.ref 148)), (eD P (tS "line_behind") 390 (.ref 155)), (eD P (tS "blank_lines_edits") 396 (.ref 160)), (eD P (tS "trailing_edits") 408 (.ref 167)), (eD P (tS "untabified") 418 (.ref 174)), (eD P (tS "backward_edit") 427 (.ref 181)), (eD P (tS "zap_end") 438 (.ref 188)), (eD P (tS "LispSignal") 471 (.ref 205)), (eD P (tS "WHITESPACE") 475 (.str (tS " ") 474)), (eD P (tS "WORD") 477 (.str (tS "w") 476)), (eD P (tS "PUNCTUATION") 479 (.str (tS ".") 478)), (eD P (tS "INHERITS") 481 (.str (tS "@") 480)), (eD P (tS "KINDS") 483 (.str (tS " w_.()'\"\\/$<>@!|") 482)), (eD P (tS "FLAGS") 485 (.str (tS "1234bcnp") 484)), (eD P (tS "Syntax") 547 (.ref 253)), (eD P (tS "sorted_flags") 553 (.ref 262)), (eD P (tS "read_syntax") 559 (.ref 267))] 51), #[]⟩
noncomputable def o12_4 : Obj := ⟨.none, none, (.fields #[(.int 1 0), (.int 0 0), (.ref 20), (.int 9 0), (.int 0 0), (.ref 28), (.int 14 0), (.int 0 0), (.ref 35), (.int 19 0), (.int 0 0), (.ref 42), (.int 22 0), (.int 0 0), (.ref 49), (.int 27 0), (.int 0 0), (.ref 56), (.int 32 0), (.int 0 0), (.ref 63), (.int 34 0), (.int 0 0), (.ref 70), (.int 36 0), (.int 0 0), (.ref 77), (.int 40 0), (.int 0 0), (.ref 84), (.int 46 0), (.int 0 0), (.ref 91), (.int 50 0), (.int 0 0), (.ref 98), (.int 58 0), (.int 0 0), (.ref 105), (.int 60 0), (.int 0 0), (.ref 112), (.int 62 0), (.int 0 0), (.ref 119), (.int 66 0), (.int 0 0), (.ref 126), (.int 69 0), (.int 0 0), (.ref 133), (.int 76 0), (.int 0 0), (.ref 140), (.int 81 0), (.int 0 0), (.ref 147), (.int 86 0), (.int 0 0), (.ref 154), (.int 89 0), (.int 0 0), (.ref 159), (.int 100 0), (.int 0 0), (.ref 166), (.int 109 0), (.int 0 0), (.ref 173), (.int 112 0), (.int 0 0), (.ref 180), (.int 116 0), (.int 0 0), (.ref 187), (.int 134 0), (.int 0 0), (.ref 194), (.int 146 0), (.int 0 0), (.ref 214), (.int 164 0), (.int 0 0), (.ref 261), (.int 166 0), (.int 0 0), (.ref 266)]), #[]⟩
noncomputable def o260_4 : Obj := oN "sorted_flags" "sorted_flags" (dA 45)
noncomputable def o261_4 : Obj := oC "sorted_flags" 548 164 1 258 259 .none .none .none (.ref 260) 551
noncomputable def o262_4 : Obj := oU "sorted_flags" "sorted_flags" (dA 45) "emacs.syntax" 472 261
noncomputable def o265_4 : Obj := oN "read_syntax" "read_syntax" (dA 46)
noncomputable def o266_4 : Obj := oC "read_syntax" 554 166 1 263 264 .none .none .none (.ref 265) 557
noncomputable def o267_4 : Obj := oU "read_syntax" "read_syntax" (dA 46) "emacs.syntax" 472 266
noncomputable def t_4 (P : Params) : BT := (.node (boot_o_0 P) (.node (boot_o_1 P) (.node (o3_4 P) (.node (boot_o_7 P) (.node oT (.node oF (.node o63_0 (.node o127_1 (lE o255_3) .nil) (lE (o191_2 P))) (.node o95_1 (lE o159_1) (lE oT))) (.node oT (.node oT (lE oF) (lE o207_2)) (.node o111_1 (lE oT) (lE o239_3)))) (.node oT (.node o39_0 (.node o71_0 (.node oT (lE oT) .nil) (lE oT)) (.node oT (lE o167_2) (lE oF))) (.node o55_0 (.node oF (lE o151_1) (lE o215_3)) (.node o119_1 (lE oF) (lE oT))))) (.node oT (.node o19_0 (.node o35_0 (.node o67_0 (.node oT (lE oF) .nil) (lE o195_2)) (.node o99_1 (lE o163_2) (lE o227_3))) (.node oT (.node o83_0 (lE o147_1) (lE (o211_3 P))) (.node oF (lE o179_2) (lE o243_3)))) (.node o27_0 (.node o43_0 (.node oT (.node o139_1 (lE o267_4) .nil) (lE o203_2)) (.node oT (lE oT) (lE o235_3))) (.node oF (.node o91_1 (lE o155_1) (lE oT)) (.node o123_1 (lE o187_2) (lE o251_3)))))) (.node (boot_o_5 P) (.node (boot_o_9 P) (.node o17_0 (.node oT (.node oT (.node oF (lE o257_3) .nil) (lE o193_2)) (.node o97_1 (lE oT) (lE o225_3))) (.node o49_0 (.node o81_0 (lE oT) (lE oT)) (.node o113_1 (lE o177_2) (lE o241_3)))) (.node o25_0 (.node o41_0 (.node oF (.node o137_1 (lE o265_4) .nil) (lE o201_2)) (.node o105_1 (lE oF) (lE oT))) (.node o57_0 (.node oT (lE o153_1) (lE oF)) (.node oT (lE oT) (lE o249_3))))) (.node o13_a (.node o21_0 (.node oT (.node o69_0 (.node o133_1 (lE o261_4) .nil) (lE oF)) (.node oF (lE o165_2) (lE o229_3))) (.node o53_0 (.node o85_0 (lE oT) (lE o213_3)) (.node oT (lE o181_2) (lE oF)))) (.node o29_0 (.node oF (.node o77_0 (lE o141_1) (lE o205_2)) (.node o109_1 (lE o173_2) (lE oT))) (.node oT (.node oT (lE oF) (lE o221_3)) (.node o125_1 (lE o189_2) (lE o253_3))))))) (.node (o2_2 P) (.node (boot_o_4 P) (.node (boot_o_8 P) (.node oF (.node o32_0 (.node o64_0 (.node oT (lE o256_3) .nil) (lE oT)) (.node oT (lE o160_1) (lE oF))) (.node o48_0 (.node oF (lE o144_1) (lE o208_2)) (.node o112_1 (lE oF) (lE oT)))) (.node oF (.node oT (.node oT (.node oF (lE oF) .nil) (lE o200_2)) (.node o104_1 (lE oT) (lE o232_3))) (.node o56_0 (.node o88_1 (lE oT) (lE oT)) (.node o120_1 (lE o184_2) (lE o248_3))))) (.node o12_4 (.node o20_0 (.node o36_0 (.node oT (.node o132_1 (lE o260_4) .nil) (lE oT)) (.node oT (lE oT) (lE o228_3))) (.node oF (.node o84_0 (lE o148_1) (lE oT)) (.node o116_1 (lE o180_2) (lE oT)))) (.node o28_0 (.node oT (.node o76_0 (lE o140_1) (lE (o204_2 P))) (.node oF (lE o172_2) (lE o236_3))) (.node o60_0 (.node o92_1 (lE oT) (lE o220_3)) (.node oT (lE o188_2) (lE (o252_3 P))))))) (.node (boot_o_6 P) (.node (boot_o_10 P) (.node oT (.node o34_0 (.node oF (.node o130_1 (lE oT) .nil) (lE o194_2)) (.node o98_1 (lE oF) (lE oT))) (.node o50_0 (.node oT (lE o146_1) (lE o210_3)) (.node oT (lE oT) (lE o242_3)))) (.node oT (.node o42_0 (.node o74_0 (.node oT (lE o266_4) .nil) (lE o202_2)) (.node o106_1 (lE o170_2) (lE o234_3))) (.node oT (.node o90_1 (lE o154_1) (lE o218_3)) (.node oF (lE o186_2) (lE o250_3))))) (.node o14_a (.node o22_0 (.node oF (.node o70_0 (.node o134_1 (lE o262_4) .nil) (lE o198_2)) (.node o102_1 (lE o166_2) (lE oT))) (.node oT (.node oT (lE oF) (lE o214_3)) (.node o118_1 (lE oT) (lE o246_3)))) (.node oT (.node o46_0 (.node o78_0 (lE oT) (lE o206_2)) (.node oT (lE o174_2) (lE oF))) (.node o62_0 (.node oF (lE o158_1) (lE o222_3)) (.node o126_1 (lE o190_2) (lE o254_3))))))))
noncomputable def o3_5 (P : Params) : Obj := ⟨(.type "dict"), none, (.dict #[(eD P (tS "__name__") 165 (.str (tS "emacs.syntax") 472)), (eD P (tS "__doc__") 166 .none), (eD P (tS "__package__") 167 .none), (eD P (tS "__loader__") 168 (.builtin "__main__.__loader__#opaque")), (eD P (tS "__spec__") 169 .none), (eD P (tS "__annotations__") 170 (.ref 6)), (eD P (tS "__builtins__") 171 (.ref 4)), (eD P (tS "__file__") 173 (.str (tS "/claim/cut.py") 172)), (eD P (tS "__cached__") 174 .none), (eD P (tS "_wall") 193 (.ref 21)), (eD P (tS "NEWLINE") 197 (.int 10 196)), (eD P (tS "SPACE") 199 (.int 32 198)), (eD P (tS "TAB") 201 (.int 9 200)), (eD P (tS "BLANKS") 202 (.ref 22)), (eD P (tS "line_start") 211 (.ref 29)), (eD P (tS "line_end") 220 (.ref 36)), (eD P (tS "next_start") 229 (.ref 43)), (eD P (tS "blanks_end") 238 (.ref 50)), (eD P (tS "blanks_begin") 247 (.ref 57)), (eD P (tS "is_line_begin") 255 (.ref 64)), (eD P (tS "is_line_end") 263 (.ref 71)), (eD P (tS "is_blank_line") 271 (.ref 78)), (eD P (tS "DELETE") 275 (.int 127 274)), (eD P (tS "width_at") 284 (.ref 85)), (eD P (tS "column_of_codes") 294 (.ref 92)), (eD P (tS "column_at") 305 (.ref 99)), (eD P (tS "OPENS") 309 (.str (tS "('") 308)), (eD P (tS "CLOSES") 311 (.str (tS ")") 310)), (eD P (tS "horizontal_edit") 320 (.ref 106)), (eD P (tS "just_edit") 329 (.ref 113)), (eD P (tS "wants_space") 339 (.ref 120)), (eD P (tS "fixup_edit") 350 (.ref 127)), (eD P (tS "join_edit") 363 (.ref 134)), (eD P (tS "blank_run") 372 (.ref 141)), (eD P (tS "behind_blanks") 381 (.ref 148)), (eD P (tS "line_behind") 390 (.ref 155)), (eD P (tS "blank_lines_edits") 396 (.ref 160)), (eD P (tS "trailing_edits") 408 (.ref 167)), (eD P (tS "untabified") 418 (.ref 174)), (eD P (tS "backward_edit") 427 (.ref 181)), (eD P (tS "zap_end") 438 (.ref 188)), (eD P (tS "LispSignal") 471 (.ref 205)), (eD P (tS "WHITESPACE") 475 (.str (tS " ") 474)), (eD P (tS "WORD") 477 (.str (tS "w") 476)), (eD P (tS "PUNCTUATION") 479 (.str (tS ".") 478)), (eD P (tS "INHERITS") 481 (.str (tS "@") 480)), (eD P (tS "KINDS") 483 (.str (tS " w_.()'\"\\/$<>@!|") 482)), (eD P (tS "FLAGS") 485 (.str (tS "1234bcnp") 484)), (eD P (tS "Syntax") 547 (.ref 253)), (eD P (tS "sorted_flags") 553 (.ref 262)), (eD P (tS "read_syntax") 559 (.ref 267)), (eD P (tS "SyntaxTable") 653 (.ref 334))] 52), #[]⟩
noncomputable def o12_5 : Obj := ⟨.none, none, (.fields #[(.int 1 0), (.int 0 0), (.ref 20), (.int 9 0), (.int 0 0), (.ref 28), (.int 14 0), (.int 0 0), (.ref 35), (.int 19 0), (.int 0 0), (.ref 42), (.int 22 0), (.int 0 0), (.ref 49), (.int 27 0), (.int 0 0), (.ref 56), (.int 32 0), (.int 0 0), (.ref 63), (.int 34 0), (.int 0 0), (.ref 70), (.int 36 0), (.int 0 0), (.ref 77), (.int 40 0), (.int 0 0), (.ref 84), (.int 46 0), (.int 0 0), (.ref 91), (.int 50 0), (.int 0 0), (.ref 98), (.int 58 0), (.int 0 0), (.ref 105), (.int 60 0), (.int 0 0), (.ref 112), (.int 62 0), (.int 0 0), (.ref 119), (.int 66 0), (.int 0 0), (.ref 126), (.int 69 0), (.int 0 0), (.ref 133), (.int 76 0), (.int 0 0), (.ref 140), (.int 81 0), (.int 0 0), (.ref 147), (.int 86 0), (.int 0 0), (.ref 154), (.int 89 0), (.int 0 0), (.ref 159), (.int 100 0), (.int 0 0), (.ref 166), (.int 109 0), (.int 0 0), (.ref 173), (.int 112 0), (.int 0 0), (.ref 180), (.int 116 0), (.int 0 0), (.ref 187), (.int 134 0), (.int 0 0), (.ref 194), (.int 146 0), (.int 0 0), (.ref 214), (.int 164 0), (.int 0 0), (.ref 261), (.int 166 0), (.int 0 0), (.ref 266), (.int 175 0), (.int 0 0), (.ref 273)]), #[]⟩
noncomputable def o269_5 : Obj := ⟨(.type "builtin_function_or_method"), none, (.fields #[(.builtin "type.__prepare__"), (.type "type")]), #[]⟩
noncomputable def o270_5 (P : Params) : Obj := ⟨(.type "dict"), none, (.dict #[(eD P (tS "__module__") 567 (.str (tS "emacs.syntax") 472)), (eD P (tS "__qualname__") 569 (.str (tS "SyntaxTable") 568)), (eD P (tS "__firstlineno__") 571 (.int 175 570)), (eD P (tS "__init__") 579 (.ref 282)), (eD P (tS "modify") 588 (.ref 289)), (eD P (tS "modify_all") 599 (.ref 296)), (eD P (tS "modify_range") 609 (.ref 303)), (eD P (tS "own") 618 (.ref 310)), (eD P (tS "at") 628 (.ref 317)), (eD P (tS "kind_of") 636 (.ref 324)), (eD P (tS "copy") 643 (.ref 331)), (eD P (tS "__static_attributes__") 646 (.ref 332))] 12), #[]⟩
noncomputable def o272_5 : Obj := ⟨.none, none, (.fields #[(.int 177 0), (.int 4 0), (.ref 281), (.int 181 0), (.int 4 0), (.ref 288), (.int 184 0), (.int 4 0), (.ref 295), (.int 189 0), (.int 4 0), (.ref 302), (.int 192 0), (.int 4 0), (.ref 309), (.int 196 0), (.int 4 0), (.ref 316), (.int 205 0), (.int 4 0), (.ref 323), (.int 208 0), (.int 4 0), (.ref 330)]), #[]⟩
noncomputable def o273_5 : Obj := ⟨(.type "code"), none, (.fields #[(.str (tS "SyntaxTable") 562), (.str (tS "SyntaxTable") 563), (.str (tS "/claim/cut.py") 564), (.int 175 0), (.int 0 0), (.int 0 0), (.int 0 0), (.int 0 0), (.ref 271), (.bool false), (.int 181 0), (.ref 272), .none, .none, .none, .none, (.int 565 0), (.int 175 0), (.str (tS "/claim/cut.py") 566)]), #[]⟩
noncomputable def o274_5 : Obj := ⟨(.type "frame"), none, .plain, #[(some (.ref 273)), (some (.ref 3)), (some (.ref 270)), none, (some (.str (tS "emacs.syntax") 472)), none, (some (.ref 0))]⟩
noncomputable def o275_5 : Obj := ⟨(.type "tuple"), none, (.seq #[.none] 0), #[]⟩
noncomputable def o278_5 : Obj := oV ["self", "parent"] 575
noncomputable def o280_5 : Obj := oN "__init__" "SyntaxTable.__init__" (dM 47 0)
noncomputable def o281_5 : Obj := ⟨(.type "code"), none, (.fields #[(.str (tS "__init__") 572), (.str (tS "SyntaxTable.__init__") 573), (.str (tS "/claim/cut.py") 574), (.int 177 0), (.int 2 0), (.int 0 0), (.int 0 0), (.int 3 0), (.ref 276), (.bool true), (.int 181 0), (.ref 277), .none, (.ref 278), (.ref 279), (.ref 280), (.int 577 0), (.int 177 0), (.str (tS "/claim/cut.py") 578)]), #[]⟩
noncomputable def o282_5 : Obj := ⟨(.type "function"), none, (.func ⟨(tS "__init__"), (tS "SyntaxTable.__init__"), fP (dM 47 0), .stmts (fB (dM 47 0)), fS (dM 47 0), 3, [], (.ref 275), .none, .none, (.str (tS "emacs.syntax") 472), none, (.ref 281), .none, 0⟩), #[]⟩
noncomputable def o285_5 : Obj := oV ["self", "code", "syntax"] 583
noncomputable def o287_5 : Obj := oN "modify" "SyntaxTable.modify" (dM 47 1)
noncomputable def o288_5 : Obj := ⟨(.type "code"), none, (.fields #[(.str (tS "modify") 580), (.str (tS "SyntaxTable.modify") 581), (.str (tS "/claim/cut.py") 582), (.int 181 0), (.int 3 0), (.int 0 0), (.int 0 0), (.int 3 0), (.ref 283), (.bool true), (.int 181 0), (.ref 284), .none, (.ref 285), (.ref 286), (.ref 287), (.int 586 0), (.int 181 0), (.str (tS "/claim/cut.py") 587)]), #[]⟩
noncomputable def o289_5 : Obj := oU "modify" "SyntaxTable.modify" (dM 47 1) "emacs.syntax" 472 288
noncomputable def o292_5 : Obj := oV ["self", "text", "description", "syntax", "sign"] 592
noncomputable def o294_5 : Obj := oN "modify_all" "SyntaxTable.modify_all" (dM 47 2)
noncomputable def o295_5 : Obj := ⟨(.type "code"), none, (.fields #[(.str (tS "modify_all") 589), (.str (tS "SyntaxTable.modify_all") 590), (.str (tS "/claim/cut.py") 591), (.int 184 0), (.int 3 0), (.int 0 0), (.int 0 0), (.int 3 0), (.ref 290), (.bool true), (.int 181 0), (.ref 291), .none, (.ref 292), (.ref 293), (.ref 294), (.int 597 0), (.int 184 0), (.str (tS "/claim/cut.py") 598)]), #[]⟩
noncomputable def o296_5 : Obj := oU "modify_all" "SyntaxTable.modify_all" (dM 47 2) "emacs.syntax" 472 295
noncomputable def o299_5 : Obj := oV ["self", "first", "last", "syntax"] 603
noncomputable def o301_5 : Obj := oN "modify_range" "SyntaxTable.modify_range" (dM 47 3)
noncomputable def o302_5 : Obj := ⟨(.type "code"), none, (.fields #[(.str (tS "modify_range") 600), (.str (tS "SyntaxTable.modify_range") 601), (.str (tS "/claim/cut.py") 602), (.int 189 0), (.int 4 0), (.int 0 0), (.int 0 0), (.int 3 0), (.ref 297), (.bool true), (.int 181 0), (.ref 298), .none, (.ref 299), (.ref 300), (.ref 301), (.int 607 0), (.int 189 0), (.str (tS "/claim/cut.py") 608)]), #[]⟩
noncomputable def o303_5 : Obj := oU "modify_range" "SyntaxTable.modify_range" (dM 47 3) "emacs.syntax" 472 302
noncomputable def o306_5 : Obj := oV ["self", "code", "found"] 613
noncomputable def o308_5 : Obj := oN "own" "SyntaxTable.own" (dM 47 4)
noncomputable def o309_5 : Obj := ⟨(.type "code"), none, (.fields #[(.str (tS "own") 610), (.str (tS "SyntaxTable.own") 611), (.str (tS "/claim/cut.py") 612), (.int 192 0), (.int 2 0), (.int 0 0), (.int 0 0), (.int 3 0), (.ref 304), (.bool true), (.int 181 0), (.ref 305), .none, (.ref 306), (.ref 307), (.ref 308), (.int 616 0), (.int 192 0), (.str (tS "/claim/cut.py") 617)]), #[]⟩
noncomputable def o310_5 : Obj := oU "own" "SyntaxTable.own" (dM 47 4) "emacs.syntax" 472 309
noncomputable def o313_5 : Obj := oV ["self", "code", "table", "found"] 622
noncomputable def o315_5 : Obj := oN "at" "SyntaxTable.at" (dM 47 5)
noncomputable def o316_5 : Obj := ⟨(.type "code"), none, (.fields #[(.str (tS "at") 619), (.str (tS "SyntaxTable.at") 620), (.str (tS "/claim/cut.py") 621), (.int 196 0), (.int 2 0), (.int 0 0), (.int 0 0), (.int 3 0), (.ref 311), (.bool true), (.int 181 0), (.ref 312), .none, (.ref 313), (.ref 314), (.ref 315), (.int 626 0), (.int 196 0), (.str (tS "/claim/cut.py") 627)]), #[]⟩
noncomputable def o317_5 : Obj := oU "at" "SyntaxTable.at" (dM 47 5) "emacs.syntax" 472 316
noncomputable def o320_5 : Obj := oV ["self", "code"] 632
noncomputable def o322_5 : Obj := oN "kind_of" "SyntaxTable.kind_of" (dM 47 6)
noncomputable def o323_5 : Obj := ⟨(.type "code"), none, (.fields #[(.str (tS "kind_of") 629), (.str (tS "SyntaxTable.kind_of") 630), (.str (tS "/claim/cut.py") 631), (.int 205 0), (.int 2 0), (.int 0 0), (.int 0 0), (.int 3 0), (.ref 318), (.bool true), (.int 181 0), (.ref 319), .none, (.ref 320), (.ref 321), (.ref 322), (.int 634 0), (.int 205 0), (.str (tS "/claim/cut.py") 635)]), #[]⟩
noncomputable def o324_5 : Obj := oU "kind_of" "SyntaxTable.kind_of" (dM 47 6) "emacs.syntax" 472 323
noncomputable def o327_5 : Obj := oV ["self"] 640
noncomputable def o329_5 : Obj := oN "copy" "SyntaxTable.copy" (dM 47 7)
noncomputable def o330_5 : Obj := ⟨(.type "code"), none, (.fields #[(.str (tS "copy") 637), (.str (tS "SyntaxTable.copy") 638), (.str (tS "/claim/cut.py") 639), (.int 208 0), (.int 1 0), (.int 0 0), (.int 0 0), (.int 3 0), (.ref 325), (.bool true), (.int 181 0), (.ref 326), .none, (.ref 327), (.ref 328), (.ref 329), (.int 641 0), (.int 208 0), (.str (tS "/claim/cut.py") 642)]), #[]⟩
noncomputable def o331_5 : Obj := oU "copy" "SyntaxTable.copy" (dM 47 7) "emacs.syntax" 472 330
noncomputable def o332_5 : Obj := oV ["parent", "rows"] 644
noncomputable def o333_5 (P : Params) : Obj := ⟨(.type "dict"), none, (.dict #[(eD P (tS "__module__") 567 (.str (tS "emacs.syntax") 472)), (eD P (tS "__firstlineno__") 571 (.int 175 570)), (eD P (tS "__init__") 579 (.ref 282)), (eD P (tS "modify") 588 (.ref 289)), (eD P (tS "modify_all") 599 (.ref 296)), (eD P (tS "modify_range") 609 (.ref 303)), (eD P (tS "own") 618 (.ref 310)), (eD P (tS "at") 628 (.ref 317)), (eD P (tS "kind_of") 636 (.ref 324)), (eD P (tS "copy") 643 (.ref 331)), (eD P (tS "__static_attributes__") 646 (.ref 332)), (eD P (tS "__dict__") 648 (.ref 335)), (eD P (tS "__weakref__") 650 (.ref 336)), (eD P (tS "__doc__") 651 .none)] 4), #[]⟩
noncomputable def o334_5 : Obj := ⟨(.type "type"), none, (.cls ⟨(tS "SyntaxTable"), [(.type "object")], [(.ref 334), (.type "object")], 333, (tS "SyntaxTable"), true, [], [], false, none, false⟩), #[none, none, (some (.str (tS "SyntaxTable") 560)), (some (.str (tS "SyntaxTable") 568)), (some (.builtin "object.__new__")), (some (.bool true))]⟩
noncomputable def o335_5 : Obj := ⟨(.type "getset_descriptor"), none, (.fields #[(.str (tS "__dict__") 647), (.ref 334), (.builtin "function.__dict__"), (.builtin "function.__dict__#set")]), #[]⟩
noncomputable def o336_5 : Obj := ⟨(.type "getset_descriptor"), none, (.fields #[(.str (tS "__weakref__") 649), (.ref 334), (.builtin "ExceptionGroup.__weakref__"), .none]), #[]⟩
noncomputable def o337_5 : Obj := ⟨(.type "super"), none, (.fields #[(.ref 334), (.ref 334), (.ref 334)]), #[]⟩
noncomputable def o338_5 : Obj := ⟨(.type "builtin_function_or_method"), none, (.fields #[(.builtin "object.__init_subclass__"), (.ref 334)]), #[]⟩
noncomputable def t_5 (P : Params) : BT := (.node (boot_o_0 P) (.node (boot_o_1 P) (.node (o3_5 P) (.node (boot_o_7 P) (.node oT (.node oF (.node o63_0 (.node o127_1 (lE o255_3) .nil) (.node (o191_2 P) (lE oF) .nil)) (.node o95_1 (.node o159_1 (lE o287_5) .nil) (lE oT))) (.node oT (.node oT (.node oF (lE oT) .nil) (.node o207_2 (lE o335_5) .nil)) (.node o111_1 (.node oT (lE o303_5) .nil) (lE o239_3)))) (.node oT (.node o39_0 (.node o71_0 (.node oT (lE oT) .nil) (.node oT (lE o327_5) .nil)) (.node oT (.node o167_2 (lE o295_5) .nil) (lE oF))) (.node o55_0 (.node oF (.node o151_1 (lE oT) .nil) (lE o215_3)) (.node o119_1 (.node oF (lE oT) .nil) (lE oT))))) (.node oT (.node o19_0 (.node o35_0 (.node o67_0 (.node oT (lE oF) .nil) (.node o195_2 (lE o323_5) .nil)) (.node o99_1 (.node o163_2 (lE oF) .nil) (lE o227_3))) (.node oT (.node o83_0 (.node o147_1 (lE o275_5) .nil) (lE (o211_3 P))) (.node oF (.node o179_2 (lE oT) .nil) (lE o243_3)))) (.node o27_0 (.node o43_0 (.node oT (.node o139_1 (lE o267_4) .nil) (.node o203_2 (lE o331_5) .nil)) (.node oT (.node oT (lE o299_5) .nil) (lE o235_3))) (.node oF (.node o91_1 (.node o155_1 (lE oT) .nil) (lE oT)) (.node o123_1 (.node o187_2 (lE o315_5) .nil) (lE o251_3)))))) (.node (boot_o_5 P) (.node (boot_o_9 P) (.node o17_0 (.node oT (.node oT (.node oF (lE o257_3) .nil) (.node o193_2 (lE oT) .nil)) (.node o97_1 (.node oT (lE o289_5) .nil) (lE o225_3))) (.node o49_0 (.node o81_0 (.node oT (lE o273_5) .nil) (.node oT (lE o337_5) .nil)) (.node o113_1 (.node o177_2 (lE oF) .nil) (lE o241_3)))) (.node o25_0 (.node o41_0 (.node oF (.node o137_1 (lE o265_4) .nil) (.node o201_2 (lE o329_5) .nil)) (.node o105_1 (.node oF (lE oT) .nil) (lE oT))) (.node o57_0 (.node oT (.node o153_1 (lE o281_5) .nil) (lE oF)) (.node oT (.node oT (lE o313_5) .nil) (lE o249_3))))) (.node o13_a (.node o21_0 (.node oT (.node o69_0 (.node o133_1 (lE o261_4) .nil) (.node oF (lE oT) .nil)) (.node oF (.node o165_2 (lE oT) .nil) (lE o229_3))) (.node o53_0 (.node o85_0 (.node oT (lE oF) .nil) (lE o213_3)) (.node oT (.node o181_2 (lE o309_5) .nil) (lE oF)))) (.node o29_0 (.node oF (.node o77_0 (.node o141_1 (lE o269_5) .nil) (.node o205_2 (lE (o333_5 P)) .nil)) (.node o109_1 (.node o173_2 (lE o301_5) .nil) (lE oT))) (.node oT (.node oT (.node oF (lE o285_5) .nil) (lE o221_3)) (.node o125_1 (.node o189_2 (lE o317_5) .nil) (lE o253_3))))))) (.node (o2_2 P) (.node (boot_o_4 P) (.node (boot_o_8 P) (.node oF (.node o32_0 (.node o64_0 (.node oT (lE o256_3) .nil) (.node oT (lE o320_5) .nil)) (.node oT (.node o160_1 (lE o288_5) .nil) (lE oF))) (.node o48_0 (.node oF (.node o144_1 (lE o272_5) .nil) (.node o208_2 (lE o336_5) .nil)) (.node o112_1 (.node oF (lE oT) .nil) (lE oT)))) (.node oF (.node oT (.node oT (.node oF (lE oF) .nil) (.node o200_2 (lE oT) .nil)) (.node o104_1 (.node oT (lE o296_5) .nil) (lE o232_3))) (.node o56_0 (.node o88_1 (.node oT (lE o280_5) .nil) (lE oT)) (.node o120_1 (.node o184_2 (lE oF) .nil) (lE o248_3))))) (.node o12_5 (.node o20_0 (.node o36_0 (.node oT (.node o132_1 (lE o260_4) .nil) (.node oT (lE o324_5) .nil)) (.node oT (.node oT (lE o292_5) .nil) (lE o228_3))) (.node oF (.node o84_0 (.node o148_1 (lE oT) .nil) (lE oT)) (.node o116_1 (.node o180_2 (lE o308_5) .nil) (lE oT)))) (.node o28_0 (.node oT (.node o76_0 (.node o140_1 (lE oT) .nil) (.node (o204_2 P) (lE o332_5) .nil)) (.node oF (.node o172_2 (lE oT) .nil) (lE o236_3))) (.node o60_0 (.node o92_1 (.node oT (lE oF) .nil) (lE o220_3)) (.node oT (.node o188_2 (lE o316_5) .nil) (lE (o252_3 P))))))) (.node (boot_o_6 P) (.node (boot_o_10 P) (.node oT (.node o34_0 (.node oF (.node o130_1 (lE oT) .nil) (.node o194_2 (lE o322_5) .nil)) (.node o98_1 (.node oF (lE oT) .nil) (lE oT))) (.node o50_0 (.node oT (.node o146_1 (lE o274_5) .nil) (.node o210_3 (lE o338_5) .nil)) (.node oT (.node oT (lE o306_5) .nil) (lE o242_3)))) (.node oT (.node o42_0 (.node o74_0 (.node oT (lE o266_4) .nil) (.node o202_2 (lE o330_5) .nil)) (.node o106_1 (.node o170_2 (lE oF) .nil) (lE o234_3))) (.node oT (.node o90_1 (.node o154_1 (lE o282_5) .nil) (lE o218_3)) (.node oF (.node o186_2 (lE oT) .nil) (lE o250_3))))) (.node o14_a (.node o22_0 (.node oF (.node o70_0 (.node o134_1 (lE o262_4) .nil) (.node o198_2 (lE oF) .nil)) (.node o102_1 (.node o166_2 (lE o294_5) .nil) (lE oT))) (.node oT (.node oT (.node oF (lE o278_5) .nil) (lE o214_3)) (.node o118_1 (.node oT (lE o310_5) .nil) (lE o246_3)))) (.node oT (.node o46_0 (.node o78_0 (.node oT (lE (o270_5 P)) .nil) (.node o206_2 (lE o334_5) .nil)) (.node oT (.node o174_2 (lE o302_5) .nil) (lE oF))) (.node o62_0 (.node oF (.node o158_1 (lE oT) .nil) (lE o222_3)) (.node o126_1 (.node o190_2 (lE oT) .nil) (lE o254_3))))))))
noncomputable def o3_6 (P : Params) : Obj := ⟨(.type "dict"), none, (.dict #[(eD P (tS "__name__") 165 (.str (tS "law_np0053_01") 725)), (eD P (tS "__doc__") 166 .none), (eD P (tS "__package__") 167 .none), (eD P (tS "__loader__") 168 (.builtin "__main__.__loader__#opaque")), (eD P (tS "__spec__") 169 .none), (eD P (tS "__annotations__") 170 (.ref 6)), (eD P (tS "__builtins__") 171 (.ref 4)), (eD P (tS "__file__") 173 (.str (tS "/claim/cut.py") 172)), (eD P (tS "__cached__") 174 .none), (eD P (tS "_wall") 193 (.ref 21)), (eD P (tS "NEWLINE") 197 (.int 10 196)), (eD P (tS "SPACE") 199 (.int 32 198)), (eD P (tS "TAB") 201 (.int 9 200)), (eD P (tS "BLANKS") 202 (.ref 22)), (eD P (tS "line_start") 211 (.ref 29)), (eD P (tS "line_end") 220 (.ref 36)), (eD P (tS "next_start") 229 (.ref 43)), (eD P (tS "blanks_end") 238 (.ref 50)), (eD P (tS "blanks_begin") 247 (.ref 57)), (eD P (tS "is_line_begin") 255 (.ref 64)), (eD P (tS "is_line_end") 263 (.ref 71)), (eD P (tS "is_blank_line") 271 (.ref 78)), (eD P (tS "DELETE") 275 (.int 127 274)), (eD P (tS "width_at") 284 (.ref 85)), (eD P (tS "column_of_codes") 294 (.ref 92)), (eD P (tS "column_at") 305 (.ref 99)), (eD P (tS "OPENS") 309 (.str (tS "('") 308)), (eD P (tS "CLOSES") 311 (.str (tS ")") 310)), (eD P (tS "horizontal_edit") 320 (.ref 106)), (eD P (tS "just_edit") 329 (.ref 113)), (eD P (tS "wants_space") 339 (.ref 120)), (eD P (tS "fixup_edit") 350 (.ref 127)), (eD P (tS "join_edit") 363 (.ref 134)), (eD P (tS "blank_run") 372 (.ref 141)), (eD P (tS "behind_blanks") 381 (.ref 148)), (eD P (tS "line_behind") 390 (.ref 155)), (eD P (tS "blank_lines_edits") 396 (.ref 160)), (eD P (tS "trailing_edits") 408 (.ref 167)), (eD P (tS "untabified") 418 (.ref 174)), (eD P (tS "backward_edit") 427 (.ref 181)), (eD P (tS "zap_end") 438 (.ref 188)), (eD P (tS "LispSignal") 471 (.ref 205)), (eD P (tS "WHITESPACE") 475 (.str (tS " ") 474)), (eD P (tS "WORD") 477 (.str (tS "w") 476)), (eD P (tS "PUNCTUATION") 479 (.str (tS ".") 478)), (eD P (tS "INHERITS") 481 (.str (tS "@") 480)), (eD P (tS "KINDS") 483 (.str (tS " w_.()'\"\\/$<>@!|") 482)), (eD P (tS "FLAGS") 485 (.str (tS "1234bcnp") 484)), (eD P (tS "Syntax") 547 (.ref 253)), (eD P (tS "sorted_flags") 553 (.ref 262)), (eD P (tS "read_syntax") 559 (.ref 267)), (eD P (tS "SyntaxTable") 653 (.ref 334)), (eD P (tS "letters") 659 (.ref 345)), (eD P (tS "standard_table") 668 (.ref 352)), (eD P (tS "TextRow") 724 (.ref 391))] 55), #[]⟩
noncomputable def o12_6 : Obj := ⟨.none, none, (.fields #[(.int 1 0), (.int 0 0), (.ref 20), (.int 9 0), (.int 0 0), (.ref 28), (.int 14 0), (.int 0 0), (.ref 35), (.int 19 0), (.int 0 0), (.ref 42), (.int 22 0), (.int 0 0), (.ref 49), (.int 27 0), (.int 0 0), (.ref 56), (.int 32 0), (.int 0 0), (.ref 63), (.int 34 0), (.int 0 0), (.ref 70), (.int 36 0), (.int 0 0), (.ref 77), (.int 40 0), (.int 0 0), (.ref 84), (.int 46 0), (.int 0 0), (.ref 91), (.int 50 0), (.int 0 0), (.ref 98), (.int 58 0), (.int 0 0), (.ref 105), (.int 60 0), (.int 0 0), (.ref 112), (.int 62 0), (.int 0 0), (.ref 119), (.int 66 0), (.int 0 0), (.ref 126), (.int 69 0), (.int 0 0), (.ref 133), (.int 76 0), (.int 0 0), (.ref 140), (.int 81 0), (.int 0 0), (.ref 147), (.int 86 0), (.int 0 0), (.ref 154), (.int 89 0), (.int 0 0), (.ref 159), (.int 100 0), (.int 0 0), (.ref 166), (.int 109 0), (.int 0 0), (.ref 173), (.int 112 0), (.int 0 0), (.ref 180), (.int 116 0), (.int 0 0), (.ref 187), (.int 134 0), (.int 0 0), (.ref 194), (.int 146 0), (.int 0 0), (.ref 214), (.int 164 0), (.int 0 0), (.ref 261), (.int 166 0), (.int 0 0), (.ref 266), (.int 175 0), (.int 0 0), (.ref 273), (.int 210 0), (.int 0 0), (.ref 344), (.int 212 0), (.int 0 0), (.ref 351), (.int 225 0), (.int 0 0), (.ref 358)]), #[]⟩
noncomputable def o343_6 : Obj := oN "letters" "letters" (dA 48)
noncomputable def o344_6 : Obj := oC "letters" 654 210 0 339 340 .none (.ref 341) (.ref 342) (.ref 343) 657
noncomputable def o345_6 : Obj := oU "letters" "letters" (dA 48) "emacs.syntax" 472 344
noncomputable def o348_6 : Obj := oV ["table", "opens", "closes"] 663
noncomputable def o350_6 : Obj := oN "standard_table" "standard_table" (dA 49)
noncomputable def o351_6 : Obj := oC "standard_table" 660 212 0 346 347 .none (.ref 348) (.ref 349) (.ref 350) 666
noncomputable def o352_6 : Obj := oU "standard_table" "standard_table" (dA 49) "emacs.syntax" 472 351
noncomputable def o354_6 : Obj := ⟨(.type "builtin_function_or_method"), none, (.fields #[(.builtin "type.__prepare__"), (.type "type")]), #[]⟩
noncomputable def o355_6 (P : Params) : Obj := ⟨(.type "dict"), none, (.dict #[(eD P (tS "__module__") 678 (.str (tS "emacs.textrow") 669)), (eD P (tS "__qualname__") 680 (.str (tS "TextRow") 679)), (eD P (tS "__firstlineno__") 682 (.int 225 681)), (eD P (tS "__init__") 692 (.ref 367)), (eD P (tS "begin") 699 (.ref 374)), (eD P (tS "end") 706 (.ref 381)), (eD P (tS "code_at") 714 (.ref 388)), (eD P (tS "__static_attributes__") 717 (.ref 389))] 8), #[]⟩
noncomputable def o357_6 : Obj := ⟨.none, none, (.fields #[(.int 227 0), (.int 4 0), (.ref 366), (.int 231 0), (.int 4 0), (.ref 373), (.int 234 0), (.int 4 0), (.ref 380), (.int 237 0), (.int 4 0), (.ref 387)]), #[]⟩
noncomputable def o358_6 : Obj := ⟨(.type "code"), none, (.fields #[(.str (tS "TextRow") 673), (.str (tS "TextRow") 674), (.str (tS "/claim/cut.py") 675), (.int 225 0), (.int 0 0), (.int 0 0), (.int 0 0), (.int 0 0), (.ref 356), (.bool false), (.int 181 0), (.ref 357), .none, .none, .none, .none, (.int 676 0), (.int 225 0), (.str (tS "/claim/cut.py") 677)]), #[]⟩
noncomputable def o359_6 : Obj := ⟨(.type "frame"), none, .plain, #[(some (.ref 358)), (some (.ref 3)), (some (.ref 355)), none, (some (.str (tS "emacs.textrow") 669)), none, (some (.ref 0))]⟩
noncomputable def o360_6 : Obj := ⟨(.type "tuple"), none, (.seq #[(.int 1 683)] 0), #[]⟩
noncomputable def o363_6 : Obj := oV ["self", "codes", "place"] 687
noncomputable def o365_6 : Obj := oN "__init__" "TextRow.__init__" (dM 51 0)
noncomputable def o366_6 : Obj := ⟨(.type "code"), none, (.fields #[(.str (tS "__init__") 684), (.str (tS "TextRow.__init__") 685), (.str (tS "/claim/cut.py") 686), (.int 227 0), (.int 3 0), (.int 0 0), (.int 0 0), (.int 3 0), (.ref 361), (.bool true), (.int 181 0), (.ref 362), .none, (.ref 363), (.ref 364), (.ref 365), (.int 690 0), (.int 227 0), (.str (tS "/claim/cut.py") 691)]), #[]⟩
noncomputable def o367_6 : Obj := ⟨(.type "function"), none, (.func ⟨(tS "__init__"), (tS "TextRow.__init__"), fP (dM 51 0), .stmts (fB (dM 51 0)), fS (dM 51 0), 3, [], (.ref 360), .none, .none, (.str (tS "emacs.textrow") 669), none, (.ref 366), .none, 0⟩), #[]⟩
noncomputable def o370_6 : Obj := oV ["self"] 696
noncomputable def o372_6 : Obj := oN "begin" "TextRow.begin" (dM 51 1)
noncomputable def o373_6 : Obj := ⟨(.type "code"), none, (.fields #[(.str (tS "begin") 693), (.str (tS "TextRow.begin") 694), (.str (tS "/claim/cut.py") 695), (.int 231 0), (.int 1 0), (.int 0 0), (.int 0 0), (.int 3 0), (.ref 368), (.bool true), (.int 181 0), (.ref 369), .none, (.ref 370), (.ref 371), (.ref 372), (.int 697 0), (.int 231 0), (.str (tS "/claim/cut.py") 698)]), #[]⟩
noncomputable def o374_6 : Obj := oU "begin" "TextRow.begin" (dM 51 1) "emacs.textrow" 669 373
noncomputable def o377_6 : Obj := oV ["self"] 703
noncomputable def o379_6 : Obj := oN "end" "TextRow.end" (dM 51 2)
noncomputable def o380_6 : Obj := ⟨(.type "code"), none, (.fields #[(.str (tS "end") 700), (.str (tS "TextRow.end") 701), (.str (tS "/claim/cut.py") 702), (.int 234 0), (.int 1 0), (.int 0 0), (.int 0 0), (.int 3 0), (.ref 375), (.bool true), (.int 181 0), (.ref 376), .none, (.ref 377), (.ref 378), (.ref 379), (.int 704 0), (.int 234 0), (.str (tS "/claim/cut.py") 705)]), #[]⟩
noncomputable def o381_6 : Obj := oU "end" "TextRow.end" (dM 51 2) "emacs.textrow" 669 380
noncomputable def o384_6 : Obj := oV ["self", "place"] 710
noncomputable def o386_6 : Obj := oN "code_at" "TextRow.code_at" (dM 51 3)
noncomputable def o387_6 : Obj := ⟨(.type "code"), none, (.fields #[(.str (tS "code_at") 707), (.str (tS "TextRow.code_at") 708), (.str (tS "/claim/cut.py") 709), (.int 237 0), (.int 2 0), (.int 0 0), (.int 0 0), (.int 3 0), (.ref 382), (.bool true), (.int 181 0), (.ref 383), .none, (.ref 384), (.ref 385), (.ref 386), (.int 712 0), (.int 237 0), (.str (tS "/claim/cut.py") 713)]), #[]⟩
noncomputable def o388_6 : Obj := oU "code_at" "TextRow.code_at" (dM 51 3) "emacs.textrow" 669 387
noncomputable def o389_6 : Obj := oV ["codes", "place"] 715
noncomputable def o390_6 (P : Params) : Obj := ⟨(.type "dict"), none, (.dict #[(eD P (tS "__module__") 678 (.str (tS "emacs.textrow") 669)), (eD P (tS "__firstlineno__") 682 (.int 225 681)), (eD P (tS "__init__") 692 (.ref 367)), (eD P (tS "begin") 699 (.ref 374)), (eD P (tS "end") 706 (.ref 381)), (eD P (tS "code_at") 714 (.ref 388)), (eD P (tS "__static_attributes__") 717 (.ref 389)), (eD P (tS "__dict__") 719 (.ref 392)), (eD P (tS "__weakref__") 721 (.ref 393)), (eD P (tS "__doc__") 722 .none)] 4), #[]⟩
noncomputable def o391_6 : Obj := ⟨(.type "type"), none, (.cls ⟨(tS "TextRow"), [(.type "object")], [(.ref 391), (.type "object")], 390, (tS "TextRow"), true, [], [], false, none, false⟩), #[none, none, (some (.str (tS "TextRow") 671)), (some (.str (tS "TextRow") 679)), (some (.builtin "object.__new__")), (some (.bool true))]⟩
noncomputable def o392_6 : Obj := ⟨(.type "getset_descriptor"), none, (.fields #[(.str (tS "__dict__") 718), (.ref 391), (.builtin "function.__dict__"), (.builtin "function.__dict__#set")]), #[]⟩
noncomputable def o393_6 : Obj := ⟨(.type "getset_descriptor"), none, (.fields #[(.str (tS "__weakref__") 720), (.ref 391), (.builtin "ExceptionGroup.__weakref__"), .none]), #[]⟩
noncomputable def o394_6 : Obj := ⟨(.type "super"), none, (.fields #[(.ref 391), (.ref 391), (.ref 391)]), #[]⟩
noncomputable def o395_6 : Obj := ⟨(.type "builtin_function_or_method"), none, (.fields #[(.builtin "object.__init_subclass__"), (.ref 391)]), #[]⟩
noncomputable def t_6 (P : Params) : BT := (.node (boot_o_0 P) (.node (boot_o_1 P) (.node (o3_6 P) (.node (boot_o_7 P) (.node oT (.node oF (.node o63_0 (.node o127_1 (lE o255_3) (lE oF)) (.node (o191_2 P) (lE oF) .nil)) (.node o95_1 (.node o159_1 (lE o287_5) .nil) (.node oT (lE o351_6) .nil))) (.node oT (.node oT (.node oF (lE oT) .nil) (.node o207_2 (lE o335_5) .nil)) (.node o111_1 (.node oT (lE o303_5) .nil) (.node o239_3 (lE o367_6) .nil)))) (.node oT (.node o39_0 (.node o71_0 (.node oT (lE oT) (lE o391_6)) (.node oT (lE o327_5) .nil)) (.node oT (.node o167_2 (lE o295_5) .nil) (.node oF (lE o359_6) .nil))) (.node o55_0 (.node oF (.node o151_1 (lE oT) .nil) (.node o215_3 (lE o343_6) .nil)) (.node o119_1 (.node oF (lE oT) .nil) (.node oT (lE oT) .nil))))) (.node oT (.node o19_0 (.node o35_0 (.node o67_0 (.node oT (lE oF) (lE o387_6)) (.node o195_2 (lE o323_5) .nil)) (.node o99_1 (.node o163_2 (lE oF) .nil) (.node o227_3 (lE (o355_6 P)) .nil))) (.node oT (.node o83_0 (.node o147_1 (lE o275_5) .nil) (.node (o211_3 P) (lE oT) .nil)) (.node oF (.node o179_2 (lE oT) .nil) (.node o243_3 (lE oT) .nil)))) (.node o27_0 (.node o43_0 (.node oT (.node o139_1 (lE o267_4) (lE o395_6)) (.node o203_2 (lE o331_5) .nil)) (.node oT (.node oT (lE o299_5) .nil) (.node o235_3 (lE o363_6) .nil))) (.node oF (.node o91_1 (.node o155_1 (lE oT) .nil) (.node oT (lE oF) .nil)) (.node o123_1 (.node o187_2 (lE o315_5) .nil) (.node o251_3 (lE o379_6) .nil)))))) (.node (boot_o_5 P) (.node (boot_o_9 P) (.node o17_0 (.node oT (.node oT (.node oF (lE o257_3) (lE oT)) (.node o193_2 (lE oT) .nil)) (.node o97_1 (.node oT (lE o289_5) .nil) (.node o225_3 (lE oT) .nil))) (.node o49_0 (.node o81_0 (.node oT (lE o273_5) .nil) (.node oT (lE o337_5) .nil)) (.node o113_1 (.node o177_2 (lE oF) .nil) (.node o241_3 (lE oF) .nil)))) (.node o25_0 (.node o41_0 (.node oF (.node o137_1 (lE o265_4) (lE o393_6)) (.node o201_2 (lE o329_5) .nil)) (.node o105_1 (.node oF (lE oT) .nil) (.node oT (lE oT) .nil))) (.node o57_0 (.node oT (.node o153_1 (lE o281_5) .nil) (.node oF (lE o345_6) .nil)) (.node oT (.node oT (lE o313_5) .nil) (.node o249_3 (lE o377_6) .nil))))) (.node o13_a (.node o21_0 (.node oT (.node o69_0 (.node o133_1 (lE o261_4) (lE o389_6)) (.node oF (lE oT) .nil)) (.node oF (.node o165_2 (lE oT) .nil) (.node o229_3 (lE o357_6) .nil))) (.node o53_0 (.node o85_0 (.node oT (lE oF) .nil) (.node o213_3 (lE oT) .nil)) (.node oT (.node o181_2 (lE o309_5) .nil) (.node oF (lE o373_6) .nil)))) (.node o29_0 (.node oF (.node o77_0 (.node o141_1 (lE o269_5) .nil) (.node o205_2 (lE (o333_5 P)) .nil)) (.node o109_1 (.node o173_2 (lE o301_5) .nil) (.node oT (lE o365_6) .nil))) (.node oT (.node oT (.node oF (lE o285_5) .nil) (.node o221_3 (lE oT) .nil)) (.node o125_1 (.node o189_2 (lE o317_5) .nil) (.node o253_3 (lE o381_6) .nil))))))) (.node (o2_2 P) (.node (boot_o_4 P) (.node (boot_o_8 P) (.node oF (.node o32_0 (.node o64_0 (.node oT (lE o256_3) (lE o384_6)) (.node oT (lE o320_5) .nil)) (.node oT (.node o160_1 (lE o288_5) .nil) (.node oF (lE o352_6) .nil))) (.node o48_0 (.node oF (.node o144_1 (lE o272_5) .nil) (.node o208_2 (lE o336_5) .nil)) (.node o112_1 (.node oF (lE oT) .nil) (.node oT (lE oT) .nil)))) (.node oF (.node oT (.node oT (.node oF (lE oF) (lE o392_6)) (.node o200_2 (lE oT) .nil)) (.node o104_1 (.node oT (lE o296_5) .nil) (.node o232_3 (lE o360_6) .nil))) (.node o56_0 (.node o88_1 (.node oT (lE o280_5) .nil) (.node oT (lE o344_6) .nil)) (.node o120_1 (.node o184_2 (lE oF) .nil) (.node o248_3 (lE oF) .nil))))) (.node o12_6 (.node o20_0 (.node o36_0 (.node oT (.node o132_1 (lE o260_4) (lE o388_6)) (.node oT (lE o324_5) .nil)) (.node oT (.node oT (lE o292_5) .nil) (.node o228_3 (lE oT) .nil))) (.node oF (.node o84_0 (.node o148_1 (lE oT) .nil) (.node oT (lE oF) .nil)) (.node o116_1 (.node o180_2 (lE o308_5) .nil) (.node oT (lE o372_6) .nil)))) (.node o28_0 (.node oT (.node o76_0 (.node o140_1 (lE oT) .nil) (.node (o204_2 P) (lE o332_5) .nil)) (.node oF (.node o172_2 (lE oT) .nil) (.node o236_3 (lE oT) .nil))) (.node o60_0 (.node o92_1 (.node oT (lE oF) .nil) (.node o220_3 (lE o348_6) .nil)) (.node oT (.node o188_2 (lE o316_5) .nil) (.node (o252_3 P) (lE o380_6) .nil)))))) (.node (boot_o_6 P) (.node (boot_o_10 P) (.node oT (.node o34_0 (.node oF (.node o130_1 (lE oT) (lE o386_6)) (.node o194_2 (lE o322_5) .nil)) (.node o98_1 (.node oF (lE oT) .nil) (.node oT (lE o354_6) .nil))) (.node o50_0 (.node oT (.node o146_1 (lE o274_5) .nil) (.node o210_3 (lE o338_5) .nil)) (.node oT (.node oT (lE o306_5) .nil) (.node o242_3 (lE o370_6) .nil)))) (.node oT (.node o42_0 (.node o74_0 (.node oT (lE o266_4) (lE o394_6)) (.node o202_2 (lE o330_5) .nil)) (.node o106_1 (.node o170_2 (lE oF) .nil) (.node o234_3 (lE oF) .nil))) (.node oT (.node o90_1 (.node o154_1 (lE o282_5) .nil) (.node o218_3 (lE oT) .nil)) (.node oF (.node o186_2 (lE oT) .nil) (.node o250_3 (lE oT) .nil))))) (.node o14_a (.node o22_0 (.node oF (.node o70_0 (.node o134_1 (lE o262_4) (lE (o390_6 P))) (.node o198_2 (lE oF) .nil)) (.node o102_1 (.node o166_2 (lE o294_5) .nil) (.node oT (lE o358_6) .nil))) (.node oT (.node oT (.node oF (lE o278_5) .nil) (.node o214_3 (lE oT) .nil)) (.node o118_1 (.node oT (lE o310_5) .nil) (.node o246_3 (lE o374_6) .nil)))) (.node oT (.node o46_0 (.node o78_0 (.node oT (lE (o270_5 P)) .nil) (.node o206_2 (lE o334_5) .nil)) (.node oT (.node o174_2 (lE o302_5) .nil) (.node oF (lE o366_6) .nil))) (.node o62_0 (.node oF (.node o158_1 (lE oT) .nil) (.node o222_3 (lE o350_6) .nil)) (.node o126_1 (.node o190_2 (lE oT) .nil) (.node o254_3 (lE oT) .nil))))))))
noncomputable def o3_7 (P : Params) : Obj := ⟨(.type "dict"), none, (.dict #[(eD P (tS "__name__") 165 (.str (tS "law_np0053_01") 725)), (eD P (tS "__doc__") 166 .none), (eD P (tS "__package__") 167 .none), (eD P (tS "__loader__") 168 (.builtin "__main__.__loader__#opaque")), (eD P (tS "__spec__") 169 .none), (eD P (tS "__annotations__") 170 (.ref 6)), (eD P (tS "__builtins__") 171 (.ref 4)), (eD P (tS "__file__") 173 (.str (tS "/claim/cut.py") 172)), (eD P (tS "__cached__") 174 .none), (eD P (tS "_wall") 193 (.ref 21)), (eD P (tS "NEWLINE") 197 (.int 10 196)), (eD P (tS "SPACE") 199 (.int 32 198)), (eD P (tS "TAB") 201 (.int 9 200)), (eD P (tS "BLANKS") 202 (.ref 22)), (eD P (tS "line_start") 211 (.ref 29)), (eD P (tS "line_end") 220 (.ref 36)), (eD P (tS "next_start") 229 (.ref 43)), (eD P (tS "blanks_end") 238 (.ref 50)), (eD P (tS "blanks_begin") 247 (.ref 57)), (eD P (tS "is_line_begin") 255 (.ref 64)), (eD P (tS "is_line_end") 263 (.ref 71)), (eD P (tS "is_blank_line") 271 (.ref 78)), (eD P (tS "DELETE") 275 (.int 127 274)), (eD P (tS "width_at") 284 (.ref 85)), (eD P (tS "column_of_codes") 294 (.ref 92)), (eD P (tS "column_at") 305 (.ref 99)), (eD P (tS "OPENS") 309 (.str (tS "('") 308)), (eD P (tS "CLOSES") 311 (.str (tS ")") 310)), (eD P (tS "horizontal_edit") 320 (.ref 106)), (eD P (tS "just_edit") 329 (.ref 113)), (eD P (tS "wants_space") 339 (.ref 120)), (eD P (tS "fixup_edit") 350 (.ref 127)), (eD P (tS "join_edit") 363 (.ref 134)), (eD P (tS "blank_run") 372 (.ref 141)), (eD P (tS "behind_blanks") 381 (.ref 148)), (eD P (tS "line_behind") 390 (.ref 155)), (eD P (tS "blank_lines_edits") 396 (.ref 160)), (eD P (tS "trailing_edits") 408 (.ref 167)), (eD P (tS "untabified") 418 (.ref 174)), (eD P (tS "backward_edit") 427 (.ref 181)), (eD P (tS "zap_end") 438 (.ref 188)), (eD P (tS "LispSignal") 471 (.ref 205)), (eD P (tS "WHITESPACE") 475 (.str (tS " ") 474)), (eD P (tS "WORD") 477 (.str (tS "w") 476)), (eD P (tS "PUNCTUATION") 479 (.str (tS ".") 478)), (eD P (tS "INHERITS") 481 (.str (tS "@") 480)), (eD P (tS "KINDS") 483 (.str (tS " w_.()'\"\\/$<>@!|") 482)), (eD P (tS "FLAGS") 485 (.str (tS "1234bcnp") 484)), (eD P (tS "Syntax") 547 (.ref 253)), (eD P (tS "sorted_flags") 553 (.ref 262)), (eD P (tS "read_syntax") 559 (.ref 267)), (eD P (tS "SyntaxTable") 653 (.ref 334)), (eD P (tS "letters") 659 (.ref 345)), (eD P (tS "standard_table") 668 (.ref 352)), (eD P (tS "TextRow") 724 (.ref 391)), (eD P (tS "_law_draw") 735 (.ref 402)), (eD P (tS "_law_deck_of") 741 (.ref 407)), (eD P (tS "_law_one") 749 (.ref 414)), (eD P (tS "_law_some_codes") 755 (.ref 419)), (eD P (tS "_law_done") 761 (.ref 424)), (eD P (tS "_law_blank") 768 (.ref 431)), (eD P (tS "_law_without_blanks") 774 (.ref 436)), (eD P (tS "_law_joined") 787 (.ref 443)), (eD P (tS "_law_around") 795 (.ref 450)), (eD P (tS "law") 801 (.ref 455))] 65), #[]⟩
noncomputable def o12_7 : Obj := ⟨.none, none, (.fields #[(.int 1 0), (.int 0 0), (.ref 20), (.int 9 0), (.int 0 0), (.ref 28), (.int 14 0), (.int 0 0), (.ref 35), (.int 19 0), (.int 0 0), (.ref 42), (.int 22 0), (.int 0 0), (.ref 49), (.int 27 0), (.int 0 0), (.ref 56), (.int 32 0), (.int 0 0), (.ref 63), (.int 34 0), (.int 0 0), (.ref 70), (.int 36 0), (.int 0 0), (.ref 77), (.int 40 0), (.int 0 0), (.ref 84), (.int 46 0), (.int 0 0), (.ref 91), (.int 50 0), (.int 0 0), (.ref 98), (.int 58 0), (.int 0 0), (.ref 105), (.int 60 0), (.int 0 0), (.ref 112), (.int 62 0), (.int 0 0), (.ref 119), (.int 66 0), (.int 0 0), (.ref 126), (.int 69 0), (.int 0 0), (.ref 133), (.int 76 0), (.int 0 0), (.ref 140), (.int 81 0), (.int 0 0), (.ref 147), (.int 86 0), (.int 0 0), (.ref 154), (.int 89 0), (.int 0 0), (.ref 159), (.int 100 0), (.int 0 0), (.ref 166), (.int 109 0), (.int 0 0), (.ref 173), (.int 112 0), (.int 0 0), (.ref 180), (.int 116 0), (.int 0 0), (.ref 187), (.int 134 0), (.int 0 0), (.ref 194), (.int 146 0), (.int 0 0), (.ref 214), (.int 164 0), (.int 0 0), (.ref 261), (.int 166 0), (.int 0 0), (.ref 266), (.int 175 0), (.int 0 0), (.ref 273), (.int 210 0), (.int 0 0), (.ref 344), (.int 212 0), (.int 0 0), (.ref 351), (.int 225 0), (.int 0 0), (.ref 358), (.int 242 0), (.int 0 0), (.ref 401), (.int 251 0), (.int 0 0), (.ref 406), (.int 256 0), (.int 0 0), (.ref 413), (.int 258 0), (.int 0 0), (.ref 418), (.int 260 0), (.int 0 0), (.ref 423), (.int 264 0), (.int 0 0), (.ref 430), (.int 266 0), (.int 0 0), (.ref 435), (.int 286 0), (.int 0 0), (.ref 442), (.int 294 0), (.int 0 0), (.ref 449), (.int 296 0), (.int 0 0), (.ref 454)]), #[]⟩
noncomputable def o398_7 : Obj := oV ["_law_deck", "_law_many", "_law_found"] 730
noncomputable def o400_7 : Obj := oN "_law_draw" "_law_draw" (dA 53)
noncomputable def o401_7 : Obj := oC "_law_draw" 727 242 2 396 397 .none (.ref 398) (.ref 399) (.ref 400) 733
noncomputable def o402_7 : Obj := oU "_law_draw" "_law_draw" (dA 53) "law_np0053_01" 725 401
noncomputable def o405_7 : Obj := oN "_law_deck_of" "_law_deck_of" (dA 54)
noncomputable def o406_7 : Obj := oC "_law_deck_of" 736 251 1 403 404 .none .none .none (.ref 405) 739
noncomputable def o407_7 : Obj := oU "_law_deck_of" "_law_deck_of" (dA 54) "law_np0053_01" 725 406
noncomputable def o410_7 : Obj := oV ["_law_deck", "_law_items"] 745
noncomputable def o412_7 : Obj := oN "_law_one" "_law_one" (dA 55)
noncomputable def o413_7 : Obj := oC "_law_one" 742 256 2 408 409 .none (.ref 410) (.ref 411) (.ref 412) 747
noncomputable def o414_7 : Obj := oU "_law_one" "_law_one" (dA 55) "law_np0053_01" 725 413
noncomputable def o417_7 : Obj := oN "_law_some_codes" "_law_some_codes" (dA 56)
noncomputable def o418_7 : Obj := oC "_law_some_codes" 750 258 3 415 416 .none .none .none (.ref 417) 753
noncomputable def o419_7 : Obj := oU "_law_some_codes" "_law_some_codes" (dA 56) "law_np0053_01" 725 418
noncomputable def o422_7 : Obj := oN "_law_done" "_law_done" (dA 57)
noncomputable def o423_7 : Obj := oC "_law_done" 756 260 3 420 421 .none .none .none (.ref 422) 759
noncomputable def o424_7 : Obj := oU "_law_done" "_law_done" (dA 57) "law_np0053_01" 725 423
noncomputable def o427_7 : Obj := oV ["_law_line"] 765
noncomputable def o429_7 : Obj := oN "_law_blank" "_law_blank" (dA 58)
noncomputable def o430_7 : Obj := oC "_law_blank" 762 264 1 425 426 .none (.ref 427) (.ref 428) (.ref 429) 766
noncomputable def o431_7 : Obj := oU "_law_blank" "_law_blank" (dA 58) "law_np0053_01" 725 430
noncomputable def o434_7 : Obj := oN "_law_without_blanks" "_law_without_blanks" (dA 59)
noncomputable def o435_7 : Obj := oC "_law_without_blanks" 769 266 2 432 433 .none .none .none (.ref 434) 772
noncomputable def o436_7 : Obj := oU "_law_without_blanks" "_law_without_blanks" (dA 59) "law_np0053_01" 725 435
noncomputable def o439_7 : Obj := oV ["_law_text", "_law_offset", "_law_at", "_law_lines", "_law_left", "_law_right", "_law_space"] 778
noncomputable def o441_7 : Obj := oN "_law_joined" "_law_joined" (dA 60)
noncomputable def o442_7 : Obj := oC "_law_joined" 775 286 2 437 438 .none (.ref 439) (.ref 440) (.ref 441) 785
noncomputable def o443_7 : Obj := oU "_law_joined" "_law_joined" (dA 60) "law_np0053_01" 725 442
noncomputable def o446_7 : Obj := oV ["_law_text", "_law_offset"] 791
noncomputable def o448_7 : Obj := oN "_law_around" "_law_around" (dA 61)
noncomputable def o449_7 : Obj := oC "_law_around" 788 294 2 444 445 .none (.ref 446) (.ref 447) (.ref 448) 793
noncomputable def o450_7 : Obj := oU "_law_around" "_law_around" (dA 61) "law_np0053_01" 725 449
noncomputable def o453_7 : Obj := oN "law" "law" (dA 62)
noncomputable def o454_7 : Obj := oC "law" 796 296 1 451 452 .none .none .none (.ref 453) 799
noncomputable def o455_7 : Obj := oU "law" "law" (dA 62) "law_np0053_01" 725 454
noncomputable def t_7 (P : Params) : BT := (.node (boot_o_0 P) (.node (boot_o_1 P) (.node (o3_7 P) (.node (boot_o_7 P) (.node oT (.node oF (.node o63_0 (.node o127_1 (lE o255_3) (lE oF)) (.node (o191_2 P) (lE oF) (lE oT))) (.node o95_1 (.node o159_1 (lE o287_5) (lE oT)) (.node oT (lE o351_6) .nil))) (.node oT (.node oT (.node oF (lE oT) (lE oT)) (.node o207_2 (lE o335_5) .nil)) (.node o111_1 (.node oT (lE o303_5) (lE o431_7)) (.node o239_3 (lE o367_6) .nil)))) (.node oT (.node o39_0 (.node o71_0 (.node oT (lE oT) (lE o391_6)) (.node oT (lE o327_5) (lE o455_7))) (.node oT (.node o167_2 (lE o295_5) (lE o423_7)) (.node oF (lE o359_6) .nil))) (.node o55_0 (.node oF (.node o151_1 (lE oT) (lE o407_7)) (.node o215_3 (lE o343_6) .nil)) (.node o119_1 (.node oF (lE oT) (lE o439_7)) (.node oT (lE oT) .nil))))) (.node oT (.node o19_0 (.node o35_0 (.node o67_0 (.node oT (lE oF) (lE o387_6)) (.node o195_2 (lE o323_5) (lE oT))) (.node o99_1 (.node o163_2 (lE oF) (lE o419_7)) (.node o227_3 (lE (o355_6 P)) .nil))) (.node oT (.node o83_0 (.node o147_1 (lE o275_5) (lE oT)) (.node (o211_3 P) (lE oT) .nil)) (.node oF (.node o179_2 (lE oT) (lE o435_7)) (.node o243_3 (lE oT) .nil)))) (.node o27_0 (.node o43_0 (.node oT (.node o139_1 (lE o267_4) (lE o395_6)) (.node o203_2 (lE o331_5) .nil)) (.node oT (.node oT (lE o299_5) (lE o427_7)) (.node o235_3 (lE o363_6) .nil))) (.node oF (.node o91_1 (.node o155_1 (lE oT) (lE oT)) (.node oT (lE oF) .nil)) (.node o123_1 (.node o187_2 (lE o315_5) (lE o443_7)) (.node o251_3 (lE o379_6) .nil)))))) (.node (boot_o_5 P) (.node (boot_o_9 P) (.node o17_0 (.node oT (.node oT (.node oF (lE o257_3) (lE oT)) (.node o193_2 (lE oT) (lE o449_7))) (.node o97_1 (.node oT (lE o289_5) (lE o417_7)) (.node o225_3 (lE oT) .nil))) (.node o49_0 (.node o81_0 (.node oT (lE o273_5) (lE o401_7)) (.node oT (lE o337_5) .nil)) (.node o113_1 (.node o177_2 (lE oF) (lE oF)) (.node o241_3 (lE oF) .nil)))) (.node o25_0 (.node o41_0 (.node oF (.node o137_1 (lE o265_4) (lE o393_6)) (.node o201_2 (lE o329_5) .nil)) (.node o105_1 (.node oF (lE oT) (lE oT)) (.node oT (lE oT) .nil))) (.node o57_0 (.node oT (.node o153_1 (lE o281_5) (lE oF)) (.node oF (lE o345_6) .nil)) (.node oT (.node oT (lE o313_5) (lE o441_7)) (.node o249_3 (lE o377_6) .nil))))) (.node o13_a (.node o21_0 (.node oT (.node o69_0 (.node o133_1 (lE o261_4) (lE o389_6)) (.node oF (lE oT) (lE o453_7))) (.node oF (.node o165_2 (lE oT) (lE oF)) (.node o229_3 (lE o357_6) .nil))) (.node o53_0 (.node o85_0 (.node oT (lE oF) (lE o405_7)) (.node o213_3 (lE oT) .nil)) (.node oT (.node o181_2 (lE o309_5) (lE oT)) (.node oF (lE o373_6) .nil)))) (.node o29_0 (.node oF (.node o77_0 (.node o141_1 (lE o269_5) (lE oF)) (.node o205_2 (lE (o333_5 P)) .nil)) (.node o109_1 (.node o173_2 (lE o301_5) (lE o429_7)) (.node oT (lE o365_6) .nil))) (.node oT (.node oT (.node oF (lE o285_5) (lE o413_7)) (.node o221_3 (lE oT) .nil)) (.node o125_1 (.node o189_2 (lE o317_5) (lE oF)) (.node o253_3 (lE o381_6) .nil))))))) (.node (o2_2 P) (.node (boot_o_4 P) (.node (boot_o_8 P) (.node oF (.node o32_0 (.node o64_0 (.node oT (lE o256_3) (lE o384_6)) (.node oT (lE o320_5) (lE o448_7))) (.node oT (.node o160_1 (lE o288_5) (lE oF)) (.node oF (lE o352_6) .nil))) (.node o48_0 (.node oF (.node o144_1 (lE o272_5) (lE o400_7)) (.node o208_2 (lE o336_5) .nil)) (.node o112_1 (.node oF (lE oT) (lE oT)) (.node oT (lE oT) .nil)))) (.node oF (.node oT (.node oT (.node oF (lE oF) (lE o392_6)) (.node o200_2 (lE oT) .nil)) (.node o104_1 (.node oT (lE o296_5) (lE o424_7)) (.node o232_3 (lE o360_6) .nil))) (.node o56_0 (.node o88_1 (.node oT (lE o280_5) (lE oT)) (.node oT (lE o344_6) .nil)) (.node o120_1 (.node o184_2 (lE oF) (lE oT)) (.node o248_3 (lE oF) .nil))))) (.node o12_7 (.node o20_0 (.node o36_0 (.node oT (.node o132_1 (lE o260_4) (lE o388_6)) (.node oT (lE o324_5) (lE oF))) (.node oT (.node oT (lE o292_5) (lE oT)) (.node o228_3 (lE oT) .nil))) (.node oF (.node o84_0 (.node o148_1 (lE oT) (lE oF)) (.node oT (lE oF) .nil)) (.node o116_1 (.node o180_2 (lE o308_5) (lE o436_7)) (.node oT (lE o372_6) .nil)))) (.node o28_0 (.node oT (.node o76_0 (.node o140_1 (lE oT) (lE oT)) (.node (o204_2 P) (lE o332_5) .nil)) (.node oF (.node o172_2 (lE oT) (lE oT)) (.node o236_3 (lE oT) .nil))) (.node o60_0 (.node o92_1 (.node oT (lE oF) (lE o412_7)) (.node o220_3 (lE o348_6) .nil)) (.node oT (.node o188_2 (lE o316_5) (lE oT)) (.node (o252_3 P) (lE o380_6) .nil)))))) (.node (boot_o_6 P) (.node (boot_o_10 P) (.node oT (.node o34_0 (.node oF (.node o130_1 (lE oT) (lE o386_6)) (.node o194_2 (lE o322_5) (lE o450_7))) (.node o98_1 (.node oF (lE oT) (lE o418_7)) (.node oT (lE o354_6) .nil))) (.node o50_0 (.node oT (.node o146_1 (lE o274_5) (lE o402_7)) (.node o210_3 (lE o338_5) .nil)) (.node oT (.node oT (lE o306_5) (lE o434_7)) (.node o242_3 (lE o370_6) .nil)))) (.node oT (.node o42_0 (.node o74_0 (.node oT (lE o266_4) (lE o394_6)) (.node o202_2 (lE o330_5) .nil)) (.node o106_1 (.node o170_2 (lE oF) (lE oF)) (.node o234_3 (lE oF) .nil))) (.node oT (.node o90_1 (.node o154_1 (lE o282_5) (lE o410_7)) (.node o218_3 (lE oT) .nil)) (.node oF (.node o186_2 (lE oT) (lE o442_7)) (.node o250_3 (lE oT) .nil))))) (.node o14_a (.node o22_0 (.node oF (.node o70_0 (.node o134_1 (lE o262_4) (lE (o390_6 P))) (.node o198_2 (lE oF) (lE o454_7))) (.node o102_1 (.node o166_2 (lE o294_5) (lE o422_7)) (.node oT (lE o358_6) .nil))) (.node oT (.node oT (.node oF (lE o278_5) (lE o406_7)) (.node o214_3 (lE oT) .nil)) (.node o118_1 (.node oT (lE o310_5) (lE oF)) (.node o246_3 (lE o374_6) .nil)))) (.node oT (.node o46_0 (.node o78_0 (.node oT (lE (o270_5 P)) (lE o398_7)) (.node o206_2 (lE o334_5) .nil)) (.node oT (.node o174_2 (lE o302_5) (lE o430_7)) (.node oF (lE o366_6) .nil))) (.node o62_0 (.node oF (.node o158_1 (lE oT) (lE o414_7)) (.node o222_3 (lE o350_6) .nil)) (.node o126_1 (.node o190_2 (lE oT) (lE o446_7)) (.node o254_3 (lE oT) .nil))))))))
noncomputable def lf : Life := ⟨[], [], [], 0, [], [], false, #[], [], 0, false, false, false, 0, [2000, 10, 10], false, 0, true, [], [], 0, false⟩
noncomputable def dr : Drawn := ⟨0, 0, 0, 0⟩
noncomputable def bE : List PySem.Stmt := behindTheImports pw
noncomputable def envE : Env := { scope := pw.main.scope, locals := mainNs, globals := mainNs, cells := [], code := .ref 13, frame := some 14 }
noncomputable abbrev cE : Code := .body bE envE
noncomputable def sT (t : Params → BT) (n k : Nat) (w : World) (os : OsState) : SharedT := ⟨t w.params, n, lf, #[], dr, k, os⟩
noncomputable abbrev S_a (w : World) (os : OsState) : SharedT := sT t_a 15 187 w os
noncomputable abbrev S_0 (w : World) (os : OsState) : SharedT := sT t_0 86 285 w os
noncomputable abbrev S_1 (w : World) (os : OsState) : SharedT := sT t_1 161 397 w os
noncomputable abbrev S_2 (w : World) (os : OsState) : SharedT := sT t_2 209 478 w os
noncomputable abbrev S_3 (w : World) (os : OsState) : SharedT := sT t_3 258 548 w os
noncomputable abbrev S_4 (w : World) (os : OsState) : SharedT := sT t_4 268 560 w os
noncomputable abbrev S_5 (w : World) (os : OsState) : SharedT := sT t_5 339 654 w os
noncomputable abbrev S_6 (w : World) (os : OsState) : SharedT := sT t_6 396 727 w os
noncomputable abbrev S_7 (w : World) (os : OsState) : SharedT := sT t_7 456 802 w os
noncomputable def sts_0 : List PySem.Stmt := (bE.drop 0).take 17
theorem pcT_0 (w : World) (os : OsState) : PySem.W.Fast.tw10110043849684766642 PySem.W.Fast.tw14364793385576792824 pw w 11 (some (.ref 6)) 1 374 (S_a w os) (piecesOf sts_0 envE cE ⟨0, 0, 0, 0⟩ [topFrame ⟨0, 0, 0, 0⟩]) = some (.next, S_0 w os, cE, ⟨40, 0, 45, 42⟩) := by kernel_rfl
noncomputable def sts_1 : List PySem.Stmt := (bE.drop 17).take 14
theorem pcT_1 (w : World) (os : OsState) : PySem.W.Fast.tw10110043849684766642 PySem.W.Fast.tw14364793385576792824 pw w 11 (some (.ref 6)) 1 374 (S_0 w os) (piecesOf sts_1 envE cE ⟨40, 0, 45, 42⟩ [topFrame ⟨0, 0, 0, 0⟩]) = some (.next, S_1 w os, cE, ⟨89, 0, 99, 91⟩) := by kernel_rfl
noncomputable def sts_2 : List PySem.Stmt := (bE.drop 31).take 9
theorem pcT_2 (w : World) (os : OsState) : PySem.W.Fast.tw10110043849684766642 PySem.W.Fast.tw14364793385576792824 pw w 11 (some (.ref 6)) 1 397 (S_1 w os) (piecesOf sts_2 envE cE ⟨89, 0, 99, 91⟩ [topFrame ⟨0, 0, 0, 0⟩]) = some (.next, S_2 w os, cE, ⟨141, 0, 141, 4⟩) := by kernel_rfl
noncomputable def sts_3 : List PySem.Stmt := (bE.drop 40).take 5
theorem pcT_3 (w : World) (os : OsState) : PySem.W.Fast.tw10110043849684766642 PySem.W.Fast.tw14364793385576792824 pw w 11 (some (.ref 6)) 1 388 (S_2 w os) (piecesOf sts_3 envE cE ⟨141, 0, 141, 4⟩ [topFrame ⟨0, 0, 0, 0⟩]) = some (.next, S_3 w os, cE, ⟨146, 0, 163, 16⟩) := by kernel_rfl
noncomputable def sts_4 : List PySem.Stmt := (bE.drop 45).take 2
theorem pcT_4 (w : World) (os : OsState) : PySem.W.Fast.tw10110043849684766642 PySem.W.Fast.tw14364793385576792824 pw w 11 (some (.ref 6)) 1 53 (S_3 w os) (piecesOf sts_4 envE cE ⟨146, 0, 163, 16⟩ [topFrame ⟨0, 0, 0, 0⟩]) = some (.next, S_4 w os, cE, ⟨166, 0, 174, 51⟩) := by kernel_rfl
noncomputable def sts_5 : List PySem.Stmt := (bE.drop 47).take 1
theorem pcT_5 (w : World) (os : OsState) : PySem.W.Fast.tw10110043849684766642 PySem.W.Fast.tw14364793385576792824 pw w 11 (some (.ref 6)) 1 457 (S_4 w os) (piecesOf sts_5 envE cE ⟨166, 0, 174, 51⟩ [topFrame ⟨0, 0, 0, 0⟩]) = some (.next, S_5 w os, cE, ⟨175, 0, 209, 16⟩) := by kernel_rfl
noncomputable def sts_6 : List PySem.Stmt := (bE.drop 48).take 5
theorem pcT_6 (w : World) (os : OsState) : PySem.W.Fast.tw10110043849684766642 PySem.W.Fast.tw14364793385576792824 pw w 11 (some (.ref 6)) 1 398 (S_5 w os) (piecesOf sts_6 envE cE ⟨175, 0, 209, 16⟩ [topFrame ⟨0, 0, 0, 0⟩]) = some (.next, S_6 w os, cE, ⟨241, 0, 241, 8⟩) := by kernel_rfl
noncomputable def sts_7 : List PySem.Stmt := (bE.drop 53).take 10
theorem pcT_7 (w : World) (os : OsState) : PySem.W.Fast.tw10110043849684766642 PySem.W.Fast.tw14364793385576792824 pw w 11 (some (.ref 6)) 1 286 (S_6 w os) (piecesOf sts_7 envE cE ⟨241, 0, 241, 8⟩ [topFrame ⟨0, 0, 0, 0⟩]) = some (.next, S_7 w os, cE, ⟨296, 0, 338, 83⟩) := by kernel_rfl
theorem pc_0 (w : World) (os : OsState) : segRun treeTable pw w 11 (some (.ref 6)) 1 374 (S_a w os).abs (piecesOf sts_0 envE cE ⟨0, 0, 0, 0⟩ [topFrame ⟨0, 0, 0, 0⟩]) = some (.next, (S_0 w os).abs, cE, ⟨40, 0, 45, 42⟩) := by
  refine segRun_of ?_
  rw [PySem.W.Fast.te10110043849684766642, PySem.W.Fast.te14364793385576792824]
  exact pcT_0 w os
theorem pc_1 (w : World) (os : OsState) : segRun treeTable pw w 11 (some (.ref 6)) 1 374 (S_0 w os).abs (piecesOf sts_1 envE cE ⟨40, 0, 45, 42⟩ [topFrame ⟨0, 0, 0, 0⟩]) = some (.next, (S_1 w os).abs, cE, ⟨89, 0, 99, 91⟩) := by
  refine segRun_of ?_
  rw [PySem.W.Fast.te10110043849684766642, PySem.W.Fast.te14364793385576792824]
  exact pcT_1 w os
theorem pc_2 (w : World) (os : OsState) : segRun treeTable pw w 11 (some (.ref 6)) 1 397 (S_1 w os).abs (piecesOf sts_2 envE cE ⟨89, 0, 99, 91⟩ [topFrame ⟨0, 0, 0, 0⟩]) = some (.next, (S_2 w os).abs, cE, ⟨141, 0, 141, 4⟩) := by
  refine segRun_of ?_
  rw [PySem.W.Fast.te10110043849684766642, PySem.W.Fast.te14364793385576792824]
  exact pcT_2 w os
theorem pc_3 (w : World) (os : OsState) : segRun treeTable pw w 11 (some (.ref 6)) 1 388 (S_2 w os).abs (piecesOf sts_3 envE cE ⟨141, 0, 141, 4⟩ [topFrame ⟨0, 0, 0, 0⟩]) = some (.next, (S_3 w os).abs, cE, ⟨146, 0, 163, 16⟩) := by
  refine segRun_of ?_
  rw [PySem.W.Fast.te10110043849684766642, PySem.W.Fast.te14364793385576792824]
  exact pcT_3 w os
theorem pc_4 (w : World) (os : OsState) : segRun treeTable pw w 11 (some (.ref 6)) 1 53 (S_3 w os).abs (piecesOf sts_4 envE cE ⟨146, 0, 163, 16⟩ [topFrame ⟨0, 0, 0, 0⟩]) = some (.next, (S_4 w os).abs, cE, ⟨166, 0, 174, 51⟩) := by
  refine segRun_of ?_
  rw [PySem.W.Fast.te10110043849684766642, PySem.W.Fast.te14364793385576792824]
  exact pcT_4 w os
theorem pc_5 (w : World) (os : OsState) : segRun treeTable pw w 11 (some (.ref 6)) 1 457 (S_4 w os).abs (piecesOf sts_5 envE cE ⟨166, 0, 174, 51⟩ [topFrame ⟨0, 0, 0, 0⟩]) = some (.next, (S_5 w os).abs, cE, ⟨175, 0, 209, 16⟩) := by
  refine segRun_of ?_
  rw [PySem.W.Fast.te10110043849684766642, PySem.W.Fast.te14364793385576792824]
  exact pcT_5 w os
theorem pc_6 (w : World) (os : OsState) : segRun treeTable pw w 11 (some (.ref 6)) 1 398 (S_5 w os).abs (piecesOf sts_6 envE cE ⟨175, 0, 209, 16⟩ [topFrame ⟨0, 0, 0, 0⟩]) = some (.next, (S_6 w os).abs, cE, ⟨241, 0, 241, 8⟩) := by
  refine segRun_of ?_
  rw [PySem.W.Fast.te10110043849684766642, PySem.W.Fast.te14364793385576792824]
  exact pcT_6 w os
theorem pc_7 (w : World) (os : OsState) : segRun treeTable pw w 11 (some (.ref 6)) 1 286 (S_6 w os).abs (piecesOf sts_7 envE cE ⟨241, 0, 241, 8⟩ [topFrame ⟨0, 0, 0, 0⟩]) = some (.next, (S_7 w os).abs, cE, ⟨296, 0, 338, 83⟩) := by
  refine segRun_of ?_
  rw [PySem.W.Fast.te10110043849684766642, PySem.W.Fast.te14364793385576792824]
  exact pcT_7 w os
theorem pre_ (w : World) (os : OsState) : topGo treeTable pw w 11 (some (.ref 6)) 12 ⟨boot_heap w.params, #[], boot_drawn, boot_toks, os⟩ (topStub pw) = some ((S_a w os).abs, ⟨denote treeTable cE, cE, ⟨0, 0, 0, 0⟩, [topFrame ⟨0, 0, 0, 0⟩]⟩) := by kernel_rfl
theorem blk_ (w : World) (os : OsState) : segRun treeTable pw w 11 (some (.ref 6)) 1 1 (S_a w os).abs (blockOf bE envE cE ⟨0, 0, 0, 0⟩ [topFrame ⟨0, 0, 0, 0⟩]) = some (.next, (S_a w os).abs, cE, ⟨0, 0, 0, 0⟩) := by kernel_rfl
theorem fin_ (w : World) (os : OsState) : topRun treeTable pw w 11 (some (.ref 6)) 2 (S_7 w os).abs ⟨doneF .next, cE, ⟨296, 0, 338, 83⟩, [topFrame ⟨0, 0, 0, 0⟩]⟩ = some (S_7 w os).abs := by kernel_rfl
theorem bE_eq : bE = sts_0 ++ (sts_1 ++ (sts_2 ++ (sts_3 ++ (sts_4 ++ (sts_5 ++ (sts_6 ++ (sts_7 ++ []))))))) := by kernel_rfl
theorem run_ (w : World) (os : OsState) : topRun treeTable pw w 11 (some (.ref 6)) (12 + (1 + (374 + (374 + (397 + (388 + (53 + (457 + (398 + (286 + 2)))))))))) ⟨boot_heap w.params, #[], boot_drawn, boot_toks, os⟩ (topStub pw) = some (S_7 w os).abs := by
  have k := piece_app (pc_0 w os) (piece_app (pc_1 w os) (piece_app (pc_2 w os) (piece_app (pc_3 w os) (piece_app (pc_4 w os) (piece_app (pc_5 w os) (piece_app (pc_6 w os) (piece_app (pc_7 w os) (piece_nil (fin_ w os)))))))))
  rw [← bE_eq] at k
  exact go_top (pre_ w os) (piece_block (blk_ w os) k)
noncomputable def KK (P : Params) : Frag := [(1, boot_o_1 P), (3, o3_7 P), (13, o13_a), (20, o20_0), (21, o21_0), (22, o22_0), (28, o28_0), (29, o29_0), (35, o35_0), (36, o36_0), (42, o42_0), (43, o43_0), (49, o49_0), (50, o50_0), (56, o56_0), (57, o57_0), (63, o63_0), (64, o64_0), (70, o70_0), (71, o71_0), (77, o77_0), (78, o78_0), (84, o84_0), (85, o85_0), (91, o91_1), (92, o92_1), (98, o98_1), (99, o99_1), (105, o105_1), (106, o106_1), (112, o112_1), (113, o113_1), (119, o119_1), (120, o120_1), (126, o126_1), (127, o127_1), (133, o133_1), (134, o134_1), (140, o140_1), (141, o141_1), (147, o147_1), (148, o148_1), (154, o154_1), (155, o155_1), (159, o159_1), (160, o160_1), (166, o166_2), (167, o167_2), (173, o173_2), (174, o174_2), (180, o180_2), (181, o181_2), (187, o187_2), (188, o188_2), (194, o194_2), (201, o201_2), (202, o202_2), (204, o204_2 P), (205, o205_2), (214, o214_3), (221, o221_3), (222, o222_3), (228, o228_3), (229, o229_3), (235, o235_3), (236, o236_3), (242, o242_3), (243, o243_3), (249, o249_3), (250, o250_3), (252, o252_3 P), (253, o253_3), (261, o261_4), (262, o262_4), (266, o266_4), (267, o267_4), (273, o273_5), (275, o275_5), (281, o281_5), (282, o282_5), (288, o288_5), (289, o289_5), (295, o295_5), (296, o296_5), (302, o302_5), (303, o303_5), (309, o309_5), (310, o310_5), (316, o316_5), (317, o317_5), (323, o323_5), (324, o324_5), (330, o330_5), (331, o331_5), (333, o333_5 P), (334, o334_5), (344, o344_6), (345, o345_6), (351, o351_6), (352, o352_6), (358, o358_6), (360, o360_6), (366, o366_6), (367, o367_6), (373, o373_6), (374, o374_6), (380, o380_6), (381, o381_6), (387, o387_6), (388, o388_6), (390, o390_6 P), (391, o391_6), (401, o401_7), (402, o402_7), (406, o406_7), (407, o407_7), (413, o413_7), (414, o414_7), (418, o418_7), (419, o419_7), (423, o423_7), (424, o424_7), (430, o430_7), (431, o431_7), (435, o435_7), (436, o436_7), (442, o442_7), (443, o443_7), (449, o449_7), (450, o450_7), (454, o454_7), (455, o455_7)]
noncomputable def kas : List Addr := [1, 3, 13, 20, 21, 22, 28, 29, 35, 36, 42, 43, 49, 50, 56, 57, 63, 64, 70, 71, 77, 78, 84, 85, 91, 92, 98, 99, 105, 106, 112, 113, 119, 120, 126, 127, 133, 134, 140, 141, 147, 148, 154, 155, 159, 160, 166, 167, 173, 174, 180, 181, 187, 188, 194, 201, 202, 204, 205, 214, 221, 222, 228, 229, 235, 236, 242, 243, 249, 250, 252, 253, 261, 262, 266, 267, 273, 275, 281, 282, 288, 289, 295, 296, 302, 303, 309, 310, 316, 317, 323, 324, 330, 331, 333, 334, 344, 345, 351, 352, 358, 360, 366, 367, 373, 374, 380, 381, 387, 388, 390, 391, 401, 402, 406, 407, 413, 414, 418, 419, 423, 424, 430, 431, 435, 436, 442, 443, 449, 450, 454, 455]
theorem kas_eq (P : Params) : kas = (KK P).map (·.1) := by kernel_rfl
noncomputable def vw : Program := { pw with main := { pw.main with body := [dA 62] } }
noncomputable def loose : List Str := [tS "_wall", tS "NEWLINE", tS "SPACE", tS "TAB", tS "BLANKS", tS "line_start", tS "line_end", tS "next_start", tS "blanks_end", tS "blanks_begin", tS "is_line_begin", tS "is_line_end", tS "is_blank_line", tS "DELETE", tS "width_at", tS "column_of_codes", tS "column_at", tS "OPENS", tS "CLOSES", tS "horizontal_edit", tS "just_edit", tS "wants_space", tS "fixup_edit", tS "join_edit", tS "blank_run", tS "behind_blanks", tS "line_behind", tS "blank_lines_edits", tS "trailing_edits", tS "untabified", tS "backward_edit", tS "zap_end", tS "LispSignal", tS "WHITESPACE", tS "WORD", tS "PUNCTUATION", tS "INHERITS", tS "KINDS", tS "FLAGS", tS "Syntax", tS "sorted_flags", tS "read_syntax", tS "SyntaxTable", tS "letters", tS "standard_table", tS "TextRow", tS "_law_draw", tS "_law_deck_of", tS "_law_one", tS "_law_some_codes", tS "_law_done", tS "_law_blank", tS "_law_without_blanks", tS "_law_joined", tS "_law_around"]
noncomputable abbrev HK : Hook := kHook KK kas kas_eq
noncomputable abbrev H1 (P : Params) : Heap := absHeap (t_7 P) 456 lf
noncomputable abbrev sEnd (w : World) (os : OsState) : Shared := ⟨H1 w.params, #[], dr, 802, os⟩
noncomputable abbrev mods : List Str := importedModules pw.main.body
noncomputable abbrev rr : RowW := (PySem.Challenge.rw_np0053_01).row.toRowW
noncomputable abbrev XtK : Shared → Bool := fun s => xlAt vw [] s && recOk (RowW.records rr) s
theorem lk_obs (w : World) (os : OsState) : HK.obs (sEnd w os) = HK.val w := by kernel_rfl
theorem lk_stat (w : World) : staticsOk mods (boot_heap w.params) (H1 w.params) = true := by kernel_rfl
theorem lk_names (w : World) : namesBound pw (H1 w.params) = true := by kernel_rfl
theorem lk_gens (w : World) (os : OsState) : gensDone (sEnd w os) = true := by kernel_rfl
theorem lk_laid (w : World) : laidKept (boot_heap w.params) (H1 w.params) = true := by kernel_rfl
theorem lk_size (w : World) : ((boot_heap w.params).isNs mainGlobals && (#[] : Array GenState).size == 0, (boot_heap w.params).objs.size, (boot_heap w.params).nsMap mainGlobals "__annotations__") = (true, 11, some (.ref 6)) := by kernel_rfl
theorem lk_seen (w : World) (os : OsState) : openSeen vw loose mods XtK true (sEnd w os) = openGood vw loose := by kernel_rfl
theorem opening_eq : opening pw = plainProg pw.main.scope.names := by kernel_rfl
theorem fence_eq (s : Shared) : fenceModules? pw s = some s := by kernel_rfl
theorem openK (w : World) : (fencedOpening treeTable pw w 6000).map (fun s => (s.heap, s.gens, s.drawn, s.toks)) = some (boot_heap w.params, Array.mk [], boot_drawn, boot_toks) :=
  boot_open opening_eq rfl fence_eq w
theorem looks_ (w : World) : (fun os => ((staticsOk mods (boot_heap w.params) (H1 w.params) && namesBound pw (H1 w.params) && gensDone ⟨H1 w.params, #[], dr, 802, os⟩ && laidKept (boot_heap w.params) (H1 w.params)),
        openSeen vw loose mods XtK true ⟨H1 w.params, #[], dr, 802, os⟩, HK.obs ⟨H1 w.params, #[], dr, 802, os⟩)) = fun _ => (true, openGood vw loose, HK.val w) := by
  funext os
  rw [lk_stat w, lk_names w, lk_gens w os, lk_laid w, lk_seen w os, lk_obs w os]
  rfl
theorem left_ : LeftO pw vw loose XtK HK.obs HK.val 6000 :=
  LeftO.of_pieces (H₀ := boot_heap) (H₁ := H1) (gs₀ := #[]) (gs₁ := #[]) (d₀ := boot_drawn) (d₁ := dr) (k₀ := boot_toks) (k₁ := 802) (m₀ := 11) (ann := some (.ref 6)) (M := 12 + (1 + (374 + (374 + (397 + (388 + (53 + (457 + (398 + (286 + 2)))))))))) openK lk_size run_ rfl looks_
theorem said_ : (PySem.Challenge.rw_np0053_01).wellSaid = true := by kernel_rfl
noncomputable def fQ : PySem.Stmt → Pos
  | .FunctionDef _ _ _ _ _ _ _ _ _ p => p
  | _ => ⟨0, 0, 0, 0⟩
noncomputable abbrev dLaw : DefRec := ⟨tS "law", fP (dA 62), fB (dA 62), fS (dA 62), fQ (dA 62)⟩
abbrev rOp := (PySem.Challenge.rw_np0053_01).row
theorem k_def : defOf vw rOp.name = some (dLaw, []) := by kernel_rfl
theorem k_the : rOp.prog.theDef rOp.name = some (dLaw.params, dLaw.body, dLaw.scope) := by kernel_rfl
theorem k_kw : kwWritten? dLaw.params.kwonlyargs dLaw.params.kw_defaults = some [] := by kernel_rfl
theorem k_ch : (chainsOk vw && opensWell rOp.prog && (frees rOp.toRowW && rOp.within.isEmpty)) = true := by kernel_rfl
theorem k_bare : rOp.prog.bare := ⟨by kernel_rfl, by kernel_rfl, by kernel_rfl, by kernel_rfl, by kernel_rfl, by decide +kernel⟩
theorem k_prom : rOp.toRowW.promised := by w_witness2
theorem holds_of (call : WalkO vw loose (XL vw []) HK.says rOp.toRowW dLaw [] fun f vs => PySem.call f vs) : (PySem.Challenge.rw_np0053_01).Holds :=
  holds_law said_ fun said => holds_open (r := rOp) (q := vw) (loose := loose) (Xt := XtK) (XP := XL vw []) (Yf := HK.obs) (Ya := HK.val) (YP := HK.says) (N := 6000) (d := dLaw) (kwd := []) left_ HK.of HK.keeps (fun s e => xl_of s (Bool.and_eq_true_iff.mp e).1) XL.keeps
    k_def k_the k_kw (fun s e => recFacts_of (Bool.and_eq_true_iff.mp e).2) (by kernel_rfl) said k_ch k_bare k_prom call
noncomputable abbrev cTextRow : Addr := 391
noncomputable def nfTextRow : List Str := [tS "codes", tS "place"]
noncomputable abbrev cSyntax : Addr := 253
noncomputable def nfSyntax : List Str := [tS "kind", tS "match", tS "flags"]
noncomputable abbrev cSyntaxTable : Addr := 334
noncomputable def nfSyntaxTable : List Str := [tS "parent", tS "rows"]
noncomputable def gl0 : List (Str × D) := [(tS "NEWLINE", .int 10), (tS "SPACE", .int 32), (tS "TAB", .int 9), (tS "BLANKS", .tup [.int 32, .int 9]), (tS "DELETE", .int 127), (tS "OPENS", .str ⟨#[40, 39]⟩), (tS "CLOSES", .str ⟨#[41]⟩), (tS "WHITESPACE", .str ⟨#[32]⟩), (tS "WORD", .str ⟨#[119]⟩), (tS "PUNCTUATION", .str ⟨#[46]⟩), (tS "INHERITS", .str ⟨#[64]⟩), (tS "KINDS", .str ⟨#[32, 119, 95, 46, 40, 41, 39, 34, 92, 47, 36, 60, 62, 64, 33, 124]⟩), (tS "FLAGS", .str ⟨#[49, 50, 51, 52, 98, 99, 110, 112]⟩)]
noncomputable def fn0 : List (Str × Addr) := [(tS "line_start", 29), (tS "line_end", 36), (tS "next_start", 43), (tS "blanks_end", 50), (tS "blanks_begin", 57), (tS "is_line_begin", 64), (tS "is_line_end", 71), (tS "is_blank_line", 78), (tS "width_at", 85), (tS "column_of_codes", 92), (tS "column_at", 99), (tS "horizontal_edit", 106), (tS "just_edit", 113), (tS "wants_space", 120), (tS "fixup_edit", 127), (tS "join_edit", 134), (tS "blank_run", 141), (tS "behind_blanks", 148), (tS "line_behind", 155), (tS "blank_lines_edits", 160), (tS "trailing_edits", 167), (tS "untabified", 174), (tS "backward_edit", 181), (tS "zap_end", 188), (tS "sorted_flags", 262), (tS "read_syntax", 267), (tS "letters", 345), (tS "standard_table", 352), (tS "_law_draw", 402), (tS "_law_deck_of", 407), (tS "_law_one", 414), (tS "_law_some_codes", 419), (tS "_law_done", 424), (tS "_law_blank", 431), (tS "_law_without_blanks", 436), (tS "_law_joined", 443), (tS "_law_around", 450), (tS "TextRow", 391), (tS "Syntax", 253), (tS "SyntaxTable", 334)]
noncomputable def mt0 : List Mt := [⟨cTextRow, tS "begin", 374, nfTextRow⟩, ⟨cTextRow, tS "end", 381, nfTextRow⟩, ⟨cTextRow, tS "code_at", 388, nfTextRow⟩, ⟨cSyntaxTable, tS "kind_of", 324, nfSyntaxTable⟩, ⟨cSyntaxTable, tS "own", 310, nfSyntaxTable⟩, ⟨cSyntaxTable, tS "at", 317, nfSyntaxTable⟩, ⟨cSyntaxTable, tS "modify_all", 296, nfSyntaxTable⟩]
noncomputable def at0 : List At := [⟨cTextRow, tS "codes", 0, nfTextRow⟩, ⟨cTextRow, tS "place", 1, nfTextRow⟩, ⟨cSyntax, tS "kind", 0, nfSyntax⟩, ⟨cSyntaxTable, tS "parent", 0, nfSyntaxTable⟩, ⟨cSyntaxTable, tS "rows", 1, nfSyntaxTable⟩]
noncomputable def Γ0 (G GM : Nat → List D → Mem → KE → Prop) : Cfg := ⟨gl0, fn0, mt0, at0, G, GM⟩
noncomputable def ps_line_start : List Str := [tS "view", tS "place"]
noncomputable def rs_line_start : List Str := [tS "at"]
noncomputable def ms_line_start : List MS := [
  .set 2 (.var 1),
  .whl (.ands [.cmp .gt (.var 2) (.mcall 0 (.var 0) []), .cmp .ne (.mcall 2 (.var 0) [.bin .sub (.var 2) (.int 1)]) (.gl 0)]) [
    .set 2 (.bin .sub (.var 2) (.int 1))],
  .ret (.var 2)]
noncomputable def ps_line_end : List Str := [tS "view", tS "place"]
noncomputable def rs_line_end : List Str := [tS "at"]
noncomputable def ms_line_end : List MS := [
  .set 2 (.var 1),
  .whl (.ands [.cmp .lt (.var 2) (.mcall 1 (.var 0) []), .cmp .ne (.mcall 2 (.var 0) [.var 2]) (.gl 0)]) [
    .set 2 (.bin .add (.var 2) (.int 1))],
  .ret (.var 2)]
noncomputable def ps_next_start : List Str := [tS "view", tS "place"]
noncomputable def rs_next_start : List Str := [tS "at"]
noncomputable def ms_next_start : List MS := [
  .set 2 (.call 1 [.var 0, .var 1]),
  .ret (.ite (.cmp .lt (.var 2) (.mcall 1 (.var 0) [])) (.bin .add (.var 2) (.int 1)) (.neg (.int 1)))]
noncomputable def ps_blanks_end : List Str := [tS "view", tS "place"]
noncomputable def rs_blanks_end : List Str := [tS "at"]
noncomputable def ms_blanks_end : List MS := [
  .set 2 (.var 1),
  .whl (.ands [.cmp .lt (.var 2) (.mcall 1 (.var 0) []), .isIn false (.mcall 2 (.var 0) [.var 2]) (.gl 3)]) [
    .set 2 (.bin .add (.var 2) (.int 1))],
  .ret (.var 2)]
noncomputable def ps_blanks_begin : List Str := [tS "view", tS "place"]
noncomputable def rs_blanks_begin : List Str := [tS "at"]
noncomputable def ms_blanks_begin : List MS := [
  .set 2 (.var 1),
  .whl (.ands [.cmp .gt (.var 2) (.mcall 0 (.var 0) []), .isIn false (.mcall 2 (.var 0) [.bin .sub (.var 2) (.int 1)]) (.gl 3)]) [
    .set 2 (.bin .sub (.var 2) (.int 1))],
  .ret (.var 2)]
noncomputable def ps_is_line_begin : List Str := [tS "view", tS "place"]
noncomputable def rs_is_line_begin : List Str := []
noncomputable def ms_is_line_begin : List MS := [
  .ret (.ors [.cmp .eq (.var 1) (.mcall 0 (.var 0) []), .cmp .eq (.mcall 2 (.var 0) [.bin .sub (.var 1) (.int 1)]) (.gl 0)])]
noncomputable def ps_is_line_end : List Str := [tS "view", tS "place"]
noncomputable def rs_is_line_end : List Str := []
noncomputable def ms_is_line_end : List MS := [
  .ret (.ors [.cmp .eq (.var 1) (.mcall 1 (.var 0) []), .cmp .eq (.mcall 2 (.var 0) [.var 1]) (.gl 0)])]
noncomputable def ps_is_blank_line : List Str := [tS "view", tS "place"]
noncomputable def rs_is_blank_line : List Str := []
noncomputable def ms_is_blank_line : List MS := [
  .ret (.call 6 [.var 0, .call 3 [.var 0, .call 0 [.var 0, .var 1]]])]
noncomputable def ps_width_at : List Str := [tS "code", tS "column", tS "width"]
noncomputable def rs_width_at : List Str := []
noncomputable def ms_width_at : List MS := [
  .ite (.cmp .eq (.var 0) (.gl 2)) [
    .ret (.bin .sub (.var 2) (.bin .mod (.var 1) (.var 2)))] [],
  .ite (.ors [.cmp .lt (.var 0) (.gl 1), .cmp .eq (.var 0) (.gl 4)]) [
    .ret (.int 2)] [],
  .ret (.ite (.chain .lt .lt (.gl 4) (.var 0) (.int 160)) (.int 4) (.int 1))]
noncomputable def ps_column_of_codes : List Str := [tS "codes", tS "column", tS "width"]
noncomputable def rs_column_of_codes : List Str := [tS "code"]
noncomputable def ms_column_of_codes : List MS := [
  .fore [3] (.var 0) [
    .set 1 (.ite (.cmp .eq (.var 3) (.gl 0)) (.int 0) (.bin .add (.var 1) (.call 8 [.var 3, .var 1, .var 2])))],
  .ret (.var 1)]
noncomputable def ps_column_at : List Str := [tS "view", tS "place", tS "width"]
noncomputable def rs_column_at : List Str := [tS "column", tS "at"]
noncomputable def ms_column_at : List MS := [
  .set 3 (.int 0),
  .forr 4 [.call 0 [.var 0, .var 1], .var 1] [
    .set 3 (.bin .add (.var 3) (.call 8 [.mcall 2 (.var 0) [.var 4], .var 3, .var 2]))],
  .ret (.var 3)]
noncomputable def ps_horizontal_edit : List Str := [tS "view", tS "place", tS "is_backward"]
noncomputable def rs_horizontal_edit : List Str := []
noncomputable def ms_horizontal_edit : List MS := [
  .ret (.tup [.call 4 [.var 0, .var 1], .ite (.var 2) (.var 1) (.call 3 [.var 0, .var 1]), .list []])]
noncomputable def ps_just_edit : List Str := [tS "view", tS "place", tS "many"]
noncomputable def rs_just_edit : List Str := []
noncomputable def ms_just_edit : List MS := [
  .ret (.tup [.call 4 [.var 0, .var 1], .call 3 [.var 0, .var 1], .rep (.gl 1) (.var 2)])]
noncomputable def ps_wants_space : List Str := [tS "view", tS "table", tS "start", tS "end"]
noncomputable def rs_wants_space : List Str := []
noncomputable def ms_wants_space : List MS := [
  .ite (.ors [.call 5 [.var 0, .var 2], .call 6 [.var 0, .var 3]]) [
    .ret (.bool false)] [],
  .ret (.ands [.isIn true (.mcall 3 (.var 1) [.mcall 2 (.var 0) [.var 3]]) (.gl 6), .isIn true (.mcall 3 (.var 1) [.mcall 2 (.var 0) [.bin .sub (.var 2) (.int 1)]]) (.gl 5)])]
noncomputable def ps_fixup_edit : List Str := [tS "view", tS "table", tS "place"]
noncomputable def rs_fixup_edit : List Str := [tS "start", tS "end"]
noncomputable def ms_fixup_edit : List MS := [
  .setT [3, 4] (.tup [.call 4 [.var 0, .var 2], .call 3 [.var 0, .var 2]]),
  .ret (.tup [.var 3, .var 4, .ite (.call 13 [.var 0, .var 1, .var 3, .var 4]) (.list [.gl 1]) (.list [])])]
noncomputable def ps_join_edit : List Str := [tS "view", tS "table", tS "place"]
noncomputable def rs_join_edit : List Str := [tS "newline", tS "at", tS "start", tS "end"]
noncomputable def ms_join_edit : List MS := [
  .set 3 (.bin .sub (.call 0 [.var 0, .var 2]) (.int 1)),
  .ite (.cmp .lt (.var 3) (.mcall 0 (.var 0) [])) [
    .set 4 (.call 0 [.var 0, .var 2]),
    .ret (.tup [.var 4, .var 4, .list []])] [],
  .setT [5, 6] (.tup [.call 4 [.var 0, .var 3], .call 3 [.var 0, .bin .add (.var 3) (.int 1)]]),
  .ret (.tup [.var 5, .var 6, .ite (.call 13 [.var 0, .var 1, .var 5, .var 6]) (.list [.gl 1]) (.list [])])]
noncomputable def ps_blank_run : List Str := [tS "view", tS "place"]
noncomputable def rs_blank_run : List Str := [tS "first"]
noncomputable def ms_blank_run : List MS := [
  .set 2 (.call 0 [.var 0, .var 1]),
  .whl (.ands [.cmp .gt (.var 2) (.mcall 0 (.var 0) []), .call 7 [.var 0, .bin .sub (.var 2) (.int 1)]]) [
    .set 2 (.call 0 [.var 0, .bin .sub (.var 2) (.int 1)])],
  .ret (.tup [.var 2, .call 17 [.var 0, .var 1]])]
noncomputable def ps_behind_blanks : List Str := [tS "view", tS "place"]
noncomputable def rs_behind_blanks : List Str := [tS "at"]
noncomputable def ms_behind_blanks : List MS := [
  .set 2 (.call 2 [.var 0, .var 1]),
  .whl (.ands [.cmp .ge (.var 2) (.int 0), .call 7 [.var 0, .var 2]]) [
    .set 2 (.call 2 [.var 0, .var 2])],
  .ret (.ite (.cmp .lt (.var 2) (.int 0)) (.mcall 1 (.var 0) []) (.var 2))]
noncomputable def ps_line_behind : List Str := [tS "view", tS "place"]
noncomputable def rs_line_behind : List Str := [tS "at"]
noncomputable def ms_line_behind : List MS := [
  .set 2 (.call 2 [.var 0, .var 1]),
  .ret (.ite (.cmp .lt (.var 2) (.int 0)) (.mcall 1 (.var 0) []) (.var 2))]
noncomputable def ps_blank_lines_edits : List Str := [tS "view", tS "place"]
noncomputable def rs_blank_lines_edits : List Str := [tS "own", tS "following", tS "end", tS "first"]
noncomputable def ms_blank_lines_edits : List MS := [
  .setT [2, 3] (.tup [.call 0 [.var 0, .var 1], .call 18 [.var 0, .var 1]]),
  .ite (.not (.call 7 [.var 0, .var 1])) [
    .set 4 (.call 17 [.var 0, .var 1]),
    .ret (.ite (.cmp .lt (.var 3) (.var 4)) (.list [.tup [.var 3, .var 4, .list []]]) (.list []))] [],
  .setT [5, 4] (.call 16 [.var 0, .var 1]),
  .ite (.ands [.cmp .eq (.var 5) (.var 2), .cmp .eq (.var 4) (.var 3)]) [
    .ret (.list [.tup [.var 2, .var 3, .list []]])] [],
  .ite (.ands [.cmp .eq (.var 4) (.mcall 1 (.var 0) []), .cmp .gt (.var 3) (.call 1 [.var 0, .var 1])]) [
    .ret (.list [.tup [.var 5, .var 4, .list []]])] [],
  .ret (.comp (.var 6) (.list [.tup [.var 3, .var 4, .list []], .tup [.var 5, .var 2, .list []]]) [.cmp .lt (.idx (.var 6) (.int 0)) (.idx (.var 6) (.int 1))])]
noncomputable def ps_trailing_edits : List Str := [tS "view", tS "start", tS "end"]
noncomputable def rs_trailing_edits : List Str := [tS "found", tS "last", tS "first"]
noncomputable def ms_trailing_edits : List MS := [
  .newL 3,
  .set 4 (.call 1 [.var 0, .var 1]),
  .whl (.cmp .le (.var 4) (.var 2)) [
    .set 5 (.bi .max [.var 1, .call 4 [.var 0, .var 4]]),
    .ite (.cmp .lt (.var 5) (.var 4)) [
      .ex (.meth .append (.var 3) [.tup [.var 5, .var 4, .list []]])] [],
    .set 4 (.ite (.cmp .lt (.var 4) (.mcall 1 (.var 0) [])) (.call 1 [.var 0, .bin .add (.var 4) (.int 1)]) (.bin .add (.var 2) (.int 1)))],
  .ret (.rev (.var 3))]
noncomputable def ps_untabified : List Str := [tS "view", tS "place", tS "width"]
noncomputable def rs_untabified : List Str := [tS "column"]
noncomputable def ms_untabified : List MS := [
  .set 3 (.call 10 [.var 0, .var 1, .var 2]),
  .ret (.rep (.gl 1) (.bin .sub (.call 9 [.list [.gl 2], .var 3, .var 2]) (.var 3)))]
noncomputable def ps_backward_edit : List Str := [tS "view", tS "place", tS "width"]
noncomputable def rs_backward_edit : List Str := []
noncomputable def ms_backward_edit : List MS := [
  .ite (.cmp .eq (.mcall 2 (.var 0) [.bin .sub (.var 1) (.int 1)]) (.gl 2)) [
    .ret (.tup [.bin .sub (.var 1) (.int 1), .var 1, .slc (.call 21 [.var 0, .bin .sub (.var 1) (.int 1), .var 2]) [.int 1] []])] [],
  .ret (.tup [.bin .sub (.var 1) (.int 1), .var 1, .list []])]
noncomputable def ps_zap_end : List Str := [tS "view", tS "place", tS "code", tS "many"]
noncomputable def rs_zap_end : List Str := [tS "at"]
noncomputable def ms_zap_end : List MS := [
  .set 4 (.var 1),
  .whl (.cmp .gt (.var 3) (.int 0)) [
    .whl (.ands [.cmp .lt (.var 4) (.mcall 1 (.var 0) []), .cmp .ne (.mcall 2 (.var 0) [.var 4]) (.var 2)]) [
      .set 4 (.bin .add (.var 4) (.int 1))],
    .ite (.cmp .eq (.var 4) (.mcall 1 (.var 0) [])) [
      .ret (.neg (.int 1))] [],
    .set 4 (.bin .add (.var 4) (.int 1)),
    .set 3 (.bin .sub (.var 3) (.int 1))],
  .whl (.cmp .lt (.var 3) (.int 0)) [
    .set 4 (.bin .sub (.var 4) (.int 1)),
    .whl (.ands [.cmp .ge (.var 4) (.mcall 0 (.var 0) []), .cmp .ne (.mcall 2 (.var 0) [.var 4]) (.var 2)]) [
      .set 4 (.bin .sub (.var 4) (.int 1))],
    .ite (.cmp .lt (.var 4) (.mcall 0 (.var 0) [])) [
      .ret (.neg (.int 1))] [],
    .set 3 (.bin .add (.var 3) (.int 1))],
  .ret (.var 4)]
noncomputable def ps_sorted_flags : List Str := [tS "text"]
noncomputable def rs_sorted_flags : List Str := []
noncomputable def ms_sorted_flags : List MS := [
  .ret (.meth .join (.str ⟨#[]⟩) [.comp (.var 1) (.gl 12) [.isIn false (.var 1) (.var 0)]])]
noncomputable def ps_read_syntax : List Str := [tS "text"]
noncomputable def rs_read_syntax : List Str := [tS "kind", tS "match", tS "flags"]
noncomputable def ms_read_syntax : List MS := [
  .ite (.cmp .eq (.var 0) (.str ⟨#[]⟩)) [
    .fail] [],
  .set 1 (.ite (.cmp .eq (.idx (.var 0) (.int 0)) (.str ⟨#[45]⟩)) (.gl 7) (.idx (.var 0) (.int 0))),
  .set 2 (.ite (.ors [.cmp .lt (.bi .len [.var 0]) (.int 2), .cmp .eq (.idx (.var 0) (.int 1)) (.str ⟨#[32]⟩)]) .none (.bi .ord [.idx (.var 0) (.int 1)])),
  .set 3 (.slc (.var 0) [.int 2] []),
  .ite (.ors [.isIn true (.var 1) (.gl 11), .not (.bi .all [.comp (.ors [.isIn false (.var 4) (.gl 12), .cmp .eq (.var 4) (.str ⟨#[32]⟩)]) (.var 3) []])]) [
    .fail] [],
  .ret (.call 38 [.var 1, .var 2, .call 24 [.var 3]])]
noncomputable def ps_letters : List Str := []
noncomputable def rs_letters : List Str := []
noncomputable def ms_letters : List MS := [
  .ret (.str ⟨#[97, 98, 99, 100, 101, 102, 103, 104, 105, 106, 107, 108, 109, 110, 111, 112, 113, 114, 115, 116, 117, 118, 119, 120, 121, 122, 65, 66, 67, 68, 69, 70, 71, 72, 73, 74, 75, 76, 77, 78, 79, 80, 81, 82, 83, 84, 85, 86, 87, 88, 89, 90, 48, 49, 50, 51, 52, 53, 54, 55, 56, 57]⟩)]
noncomputable def ps_standard_table : List Str := []
noncomputable def rs_standard_table : List Str := [tS "table", tS "opens", tS "closes"]
noncomputable def ms_standard_table : List MS := [
  .set 0 (.call 39 []),
  .ex (.mcall 6 (.var 0) [.bin .add (.call 26 []) (.str ⟨#[36, 37]⟩), .str ⟨#[119]⟩]),
  .ex (.mcall 6 (.var 0) [.str ⟨#[32, 9, 10, 13, 12]⟩, .str ⟨#[32]⟩]),
  .ex (.mcall 6 (.var 0) [.str ⟨#[95, 45, 43, 42, 47, 38, 124, 60, 62, 61]⟩, .str ⟨#[95]⟩]),
  .ex (.mcall 6 (.var 0) [.str ⟨#[46, 44, 59, 58, 63, 33, 35, 64, 126, 94, 39, 96]⟩, .str ⟨#[46]⟩]),
  .fore [1, 2] (.tup [.tup [.str ⟨#[40]⟩, .str ⟨#[41]⟩], .tup [.str ⟨#[91]⟩, .str ⟨#[93]⟩], .tup [.str ⟨#[123]⟩, .str ⟨#[125]⟩]]) [
    .ex (.mcall 6 (.var 0) [.var 1, .bin .add (.str ⟨#[40]⟩) (.var 2)]),
    .ex (.mcall 6 (.var 0) [.var 2, .bin .add (.str ⟨#[41]⟩) (.var 1)])],
  .ex (.mcall 6 (.var 0) [.str ⟨#[34]⟩, .str ⟨#[34]⟩]),
  .ex (.mcall 6 (.var 0) [.str ⟨#[92]⟩, .str ⟨#[92]⟩]),
  .ret (.var 0)]
noncomputable def ps_law_draw : List Str := [tS "_law_deck", tS "_law_many"]
noncomputable def rs_law_draw : List Str := [tS "_law_found"]
noncomputable def ms_law_draw : List MS := [
  .whl (.ands [.cmp .gt (.bi .len [.var 0]) (.int 1), .cmp .eq (.idx (.var 0) (.int 0)) (.int 0)]) [
    .ex (.meth .pop0 (.var 0) [.int 0])],
  .ite (.cmp .gt (.bi .len [.var 0]) (.int 1)) [
    .set 2 (.bin .mod (.idx (.var 0) (.int 0)) (.var 1)),
    .setI (.var 0) (.int 0) (.bin .fdiv (.idx (.var 0) (.int 0)) (.var 1)),
    .ret (.var 2)] [],
  .setI (.var 0) (.int 0) (.bin .mod (.bin .add (.bin .mul (.idx (.var 0) (.int 0)) (.int 48271)) (.int 11)) (.int 2147483647)),
  .ret (.bin .mod (.bin .fdiv (.idx (.var 0) (.int 0)) (.int 64)) (.var 1))]
noncomputable def ps_law_deck_of : List Str := [tS "script"]
noncomputable def rs_law_deck_of : List Str := [tS "_law_mixed", tS "_law_cell"]
noncomputable def ms_law_deck_of : List MS := [
  .set 1 (.int 7),
  .fore [2] (.slc (.var 0) [] [.int 24]) [
    .set 1 (.bin .mod (.bin .add (.bin .add (.bin .mul (.var 1) (.int 31)) (.bin .mod (.bi .abs [.var 2]) (.bin .pow (.int 10) (.int 60)))) (.int 3)) (.int 2147483647))],
  .ret (.bin .cat (.comp (.bin .mod (.bi .abs [.var 3]) (.bin .pow (.int 10) (.int 60))) (.slc (.var 0) [] [.int 24]) [.cmp .ge (.bi .abs [.var 3]) (.bin .pow (.int 10) (.int 9))]) (.list [.var 1]))]
noncomputable def ps_law_one : List Str := [tS "_law_deck", tS "_law_items"]
noncomputable def rs_law_one : List Str := []
noncomputable def ms_law_one : List MS := [
  .ret (.idx (.var 1) (.call 28 [.var 0, .bi .len [.var 1]]))]
noncomputable def ps_law_done : List Str := [tS "_law_text", tS "_law_edits", tS "_law_first"]
noncomputable def rs_law_done : List Str := [tS "_law_start", tS "_law_end", tS "_law_codes"]
noncomputable def ms_law_done : List MS := [
  .fore [3, 4, 5] (.var 1) [
    .set 0 (.bin .add (.bin .add (.slc (.var 0) [] [.bin .sub (.var 3) (.var 2)]) (.meth .join (.str ⟨#[]⟩) [.comp (.bi .chr [.var 6]) (.var 5) []])) (.slc (.var 0) [.bin .sub (.var 4) (.var 2)] []))],
  .ret (.var 0)]
noncomputable def ps_law_blank : List Str := [tS "_law_line"]
noncomputable def rs_law_blank : List Str := []
noncomputable def ms_law_blank : List MS := [
  .ret (.cmp .eq (.meth .strip (.var 0) [.str ⟨#[32, 9]⟩]) (.str ⟨#[]⟩))]
noncomputable def ps_law_without_blanks : List Str := [tS "_law_text", tS "_law_offset"]
noncomputable def rs_law_without_blanks : List Str := [tS "_law_lines", tS "_law_at", tS "_law_last", tS "_law_low", tS "_law_high", tS "_law_head", tS "_law_tail"]
noncomputable def ms_law_without_blanks : List MS := [
  .setT [2, 3] (.tup [.meth .split (.var 0) [.str ⟨#[10]⟩], .meth .count (.slc (.var 0) [] [.var 1]) [.str ⟨#[10]⟩]]),
  .ite (.not (.call 33 [.idx (.var 2) (.var 3)])) [
    .set 4 (.bin .add (.var 3) (.int 1)),
    .whl (.ands [.cmp .lt (.var 4) (.bi .len [.var 2]), .call 33 [.idx (.var 2) (.var 4)]]) [
      .set 4 (.bin .add (.var 4) (.int 1))],
    .ite (.cmp .eq (.var 4) (.bi .len [.var 2])) [
      .ret (.bin .add (.meth .join (.str ⟨#[10]⟩) [.slc (.var 2) [] [.bin .add (.var 3) (.int 1)]]) (.ite (.cmp .gt (.bi .len [.var 2]) (.bin .add (.var 3) (.int 1))) (.str ⟨#[10]⟩) (.str ⟨#[]⟩)))] [],
    .ret (.meth .join (.str ⟨#[10]⟩) [.bin .add (.slc (.var 2) [] [.bin .add (.var 3) (.int 1)]) (.slc (.var 2) [.var 4] [])])] [],
  .setT [5, 6] (.tup [.var 3, .var 3]),
  .whl (.ands [.cmp .gt (.var 5) (.int 0), .call 33 [.idx (.var 2) (.bin .sub (.var 5) (.int 1))]]) [
    .set 5 (.bin .sub (.var 5) (.int 1))],
  .whl (.ands [.cmp .lt (.bin .add (.var 6) (.int 1)) (.bi .len [.var 2]), .call 33 [.idx (.var 2) (.bin .add (.var 6) (.int 1))]]) [
    .set 6 (.bin .add (.var 6) (.int 1))],
  .setT [7, 8] (.tup [.meth .join (.str ⟨#[]⟩) [.comp (.bin .add (.var 9) (.str ⟨#[10]⟩)) (.slc (.var 2) [] [.var 5]) []], .slc (.var 2) [.bin .add (.var 6) (.int 1)] []]),
  .ite (.neE (.var 8)) [
    .ret (.bin .add (.bin .add (.var 7) (.ite (.cmp .eq (.var 5) (.var 6)) (.str ⟨#[]⟩) (.bin .add (.idx (.var 2) (.var 3)) (.str ⟨#[10]⟩)))) (.meth .join (.str ⟨#[10]⟩) [.var 8]))] [],
  .ite (.ors [.cmp .eq (.var 5) (.var 6), .cmp .lt (.var 3) (.var 6)]) [
    .ret (.var 7)] [],
  .ret (.bin .add (.var 7) (.idx (.var 2) (.var 3)))]
noncomputable def ps_law_joined : List Str := [tS "_law_text", tS "_law_offset"]
noncomputable def rs_law_joined : List Str := [tS "_law_at", tS "_law_lines", tS "_law_left", tS "_law_right", tS "_law_space"]
noncomputable def ms_law_joined : List MS := [
  .set 2 (.meth .count (.slc (.var 0) [] [.var 1]) [.str ⟨#[10]⟩]),
  .set 3 (.meth .split (.var 0) [.str ⟨#[10]⟩]),
  .ite (.cmp .eq (.var 2) (.int 0)) [
    .ret (.var 0)] [],
  .setT [4, 5] (.tup [.meth .rstrip (.idx (.var 3) (.bin .sub (.var 2) (.int 1))) [.str ⟨#[32, 9]⟩], .meth .lstrip (.idx (.var 3) (.var 2)) [.str ⟨#[32, 9]⟩]]),
  .set 6 (.ite (.ors [.cmp .eq (.var 4) (.str ⟨#[]⟩), .cmp .eq (.var 5) (.str ⟨#[]⟩), .cmp .eq (.idx (.var 5) (.int 0)) (.str ⟨#[41]⟩), .isIn false (.idx (.var 4) (.neg (.int 1))) (.str ⟨#[40, 39]⟩)]) (.str ⟨#[]⟩) (.str ⟨#[32]⟩)),
  .ret (.meth .join (.str ⟨#[10]⟩) [.bin .add (.bin .add (.slc (.var 3) [] [.bin .sub (.var 2) (.int 1)]) (.list [.bin .add (.bin .add (.var 4) (.var 6)) (.var 5)])) (.slc (.var 3) [.bin .add (.var 2) (.int 1)] [])])]
noncomputable def ps_law_around : List Str := [tS "_law_text", tS "_law_offset"]
noncomputable def rs_law_around : List Str := []
noncomputable def ms_law_around : List MS := [
  .ret (.tup [.meth .rstrip (.slc (.var 0) [] [.var 1]) [.str ⟨#[32, 9]⟩], .meth .lstrip (.slc (.var 0) [.var 1] []) [.str ⟨#[32, 9]⟩]])]
noncomputable def ps_TextRow_begin : List Str := [tS "self"]
noncomputable def rs_TextRow_begin : List Str := []
noncomputable def ms_TextRow_begin : List MS := [
  .ret (.attr 1 (.var 0))]
noncomputable def ps_TextRow_end : List Str := [tS "self"]
noncomputable def rs_TextRow_end : List Str := []
noncomputable def ms_TextRow_end : List MS := [
  .ret (.bin .add (.attr 1 (.var 0)) (.bi .len [.attr 0 (.var 0)]))]
noncomputable def ps_TextRow_code_at : List Str := [tS "self", tS "place"]
noncomputable def rs_TextRow_code_at : List Str := []
noncomputable def ms_TextRow_code_at : List MS := [
  .ite (.chain .le .lt (.attr 1 (.var 0)) (.var 1) (.bin .add (.attr 1 (.var 0)) (.bi .len [.attr 0 (.var 0)]))) [
    .ret (.idx (.attr 0 (.var 0)) (.bin .sub (.var 1) (.attr 1 (.var 0))))] [],
  .ret (.neg (.int 1))]
noncomputable def ps_SyntaxTable_kind_of : List Str := [tS "self", tS "code"]
noncomputable def rs_SyntaxTable_kind_of : List Str := []
noncomputable def ms_SyntaxTable_kind_of : List MS := [
  .ret (.attr 2 (.mcall 5 (.var 0) [.var 1]))]
noncomputable def ps_SyntaxTable_own : List Str := [tS "self", tS "code"]
noncomputable def rs_SyntaxTable_own : List Str := [tS "found"]
noncomputable def ms_SyntaxTable_own : List MS := [
  .set 2 (.meth .get (.attr 4 (.var 0)) [.var 1, .none]),
  .ret (.ite (.ors [.isN false (.var 2), .cmp .eq (.attr 2 (.var 2)) (.gl 10)]) .none (.var 2))]
noncomputable def ps_SyntaxTable_at : List Str := [tS "self", tS "code"]
noncomputable def rs_SyntaxTable_at : List Str := [tS "table", tS "found"]
noncomputable def ms_SyntaxTable_at : List MS := [
  .set 2 (.var 0),
  .whl (.isN true (.var 2)) [
    .set 3 (.mcall 4 (.var 2) [.var 1]),
    .ite (.isN true (.var 3)) [
      .ret (.var 3)] [],
    .set 2 (.attr 3 (.var 2))],
  .ret (.call 38 [.ite (.cmp .gt (.var 1) (.int 127)) (.gl 8) (.gl 9), .none, .str ⟨#[]⟩])]
noncomputable def ps_SyntaxTable_modify_all : List Str := [tS "self", tS "text", tS "description"]
noncomputable def rs_SyntaxTable_modify_all : List Str := [tS "syntax", tS "sign"]
noncomputable def ms_SyntaxTable_modify_all : List MS := [
  .set 3 (.call 25 [.var 2]),
  .fore [4] (.var 1) [
    .setI (.attr 4 (.var 0)) (.bi .ord [.var 4]) (.var 3)]]
noncomputable def ps_law : List Str := [tS "script"]
noncomputable def rs_law : List Str := [tS "_law_deck", tS "_law_table", tS "_law_turn", tS "_law_text", tS "_law_first", tS "_law_offset", tS "_law_view", tS "_law_place", tS "_law_ahead", tS "_law_behind", tS "_law_many", tS "_law_edge", tS "_law_low", tS "_law_high", tS "_law_parts", tS "_law_last", tS "_law_due", tS "_law_line", tS "_law_width", tS "_law_column", tS "_law_sign", tS "_law_less", tS "_law_hits", tS "_law_plain"]
noncomputable def ms_law : List MS := [
  .setT [1, 2] (.tup [.call 29 [.var 0], .call 27 []]),
  .forr 3 [.int 2] [
    .set 4 (.meth .join (.str ⟨#[]⟩) [.compR (.call 30 [.var 1, .list [.str ⟨#[97]⟩, .str ⟨#[40]⟩, .str ⟨#[41]⟩, .str ⟨#[32]⟩, .str ⟨#[9]⟩, .str ⟨#[10]⟩, .str ⟨#[10]⟩, .str ⟨#[10, 32, 10]⟩, .str ⟨#[98, 32]⟩]]) [.bin .add (.int 1) (.call 28 [.var 1, .int 11])] []]),
    .setT [5, 6] (.tup [.bin .add (.int 1) (.call 28 [.var 1, .int 3]), .call 28 [.var 1, .bin .add (.bi .len [.var 4]) (.int 1)]]),
    .setT [7, 8] (.tup [.call 37 [.comp (.bi .ord [.var 25]) (.var 4) [], .var 5], .bin .add (.var 5) (.var 6)]),
    .ite (.cmp .ne (.call 32 [.var 4, .call 19 [.var 7, .var 8], .var 5]) (.call 34 [.var 4, .var 6])) [
      .ret (.bool false)] [],
    .setT [9, 10] (.call 36 [.var 4, .var 6]),
    .ite (.cmp .ne (.call 32 [.var 4, .list [.call 11 [.var 7, .var 8, .bool false]], .var 5]) (.bin .add (.var 9) (.var 10))) [
      .ret (.bool false)] [],
    .ite (.cmp .ne (.call 32 [.var 4, .list [.call 11 [.var 7, .var 8, .bool true]], .var 5]) (.bin .add (.var 9) (.slc (.var 4) [.var 6] []))) [
      .ret (.bool false)] [],
    .set 11 (.call 28 [.var 1, .int 3]),
    .ite (.cmp .ne (.call 32 [.var 4, .list [.call 12 [.var 7, .var 8, .var 11]], .var 5]) (.bin .add (.bin .add (.var 9) (.bin .mul (.str ⟨#[32]⟩) (.var 11))) (.var 10))) [
      .ret (.bool false)] [],
    .ite (.cmp .ne (.call 32 [.var 4, .list [.call 15 [.var 7, .var 2, .var 8]], .var 5]) (.call 35 [.var 4, .var 6])) [
      .ret (.bool false)] [],
    .set 12 (.ors [.cmp .eq (.var 9) (.str ⟨#[]⟩), .isIn false (.idx (.var 9) (.neg (.int 1))) (.str ⟨#[10, 40, 39]⟩), .cmp .eq (.var 10) (.str ⟨#[]⟩), .isIn false (.idx (.var 10) (.int 0)) (.str ⟨#[10, 41]⟩)]),
    .ite (.cmp .ne (.call 32 [.var 4, .list [.call 14 [.var 7, .var 2, .var 8]], .var 5]) (.bin .add (.bin .add (.var 9) (.ite (.var 12) (.str ⟨#[]⟩) (.str ⟨#[32]⟩))) (.var 10))) [
      .ret (.bool false)] [],
    .setT [13, 14] (.bi .sorted [.list [.var 6, .call 28 [.var 1, .bin .add (.bi .len [.var 4]) (.int 1)]]]),
    .set 15 (.meth .split (.slc (.var 4) [.var 13] [.var 14]) [.str ⟨#[10]⟩]),
    .set 16 (.ite (.ors [.cmp .eq (.var 14) (.bi .len [.var 4]), .cmp .eq (.idx (.var 4) (.var 14)) (.str ⟨#[10]⟩)]) (.meth .rstrip (.idx (.var 15) (.neg (.int 1))) [.str ⟨#[32, 9]⟩]) (.idx (.var 15) (.neg (.int 1)))),
    .set 17 (.meth .join (.str ⟨#[10]⟩) [.bin .add (.comp (.meth .rstrip (.var 25) [.str ⟨#[32, 9]⟩]) (.slc (.var 15) [] [.neg (.int 1)]) []) (.list [.var 16])]),
    .ite (.cmp .ne (.call 32 [.var 4, .call 20 [.var 7, .bin .add (.var 5) (.var 13), .bin .add (.var 5) (.var 14)], .var 5]) (.bin .add (.bin .add (.slc (.var 4) [] [.var 13]) (.var 17)) (.slc (.var 4) [.var 14] []))) [
      .ret (.bool false)] [],
    .ite (.cmp .gt (.var 6) (.int 0)) [
      .set 18 (.idx (.meth .split (.slc (.var 4) [] [.bin .sub (.var 6) (.int 1)]) [.str ⟨#[10]⟩]) (.neg (.int 1))),
      .setT [19, 20] (.tup [.bin .add (.int 1) (.call 28 [.var 1, .int 8]), .int 0]),
      .fore [21] (.var 18) [
        .set 20 (.bin .add (.var 20) (.ite (.cmp .eq (.var 21) (.str ⟨#[9]⟩)) (.bin .sub (.var 19) (.bin .mod (.var 20) (.var 19))) (.int 1)))],
      .set 22 (.ite (.cmp .eq (.idx (.var 4) (.bin .sub (.var 6) (.int 1))) (.str ⟨#[9]⟩)) (.bin .mul (.str ⟨#[32]⟩) (.bin .sub (.bin .sub (.var 19) (.bin .mod (.var 20) (.var 19))) (.int 1))) (.str ⟨#[]⟩)),
      .ite (.cmp .ne (.call 32 [.var 4, .list [.call 22 [.var 7, .var 8, .var 19]], .var 5]) (.bin .add (.bin .add (.slc (.var 4) [] [.bin .sub (.var 6) (.int 1)]) (.var 22)) (.slc (.var 4) [.var 6] []))) [
        .ret (.bool false)] []] [],
    .set 23 (.compR (.var 25) [.var 6, .bi .len [.var 4]] [.cmp .eq (.idx (.var 4) (.var 25)) (.str ⟨#[97]⟩)]),
    .ite (.cmp .ne (.call 23 [.var 7, .var 8, .int 97, .int 2]) (.ite (.cmp .gt (.bi .len [.var 23]) (.int 1)) (.bin .add (.bin .add (.var 5) (.idx (.var 23) (.int 1))) (.int 1)) (.neg (.int 1)))) [
      .ret (.bool false)] [],
    .set 23 (.compR (.var 25) [.var 6] [.cmp .eq (.idx (.var 4) (.var 25)) (.str ⟨#[97]⟩)]),
    .ite (.cmp .ne (.call 23 [.var 7, .var 8, .int 97, .neg (.int 1)]) (.ite (.neE (.var 23)) (.bin .add (.var 5) (.idx (.var 23) (.neg (.int 1)))) (.neg (.int 1)))) [
      .ret (.bool false)] []],
  .set 24 (.call 37 [.list [.int 97, .int 10, .int 10, .int 10, .int 10, .int 98]]),
  .ret (.cmp .eq (.call 32 [.str ⟨#[97, 10, 10, 10, 10, 98]⟩, .call 19 [.var 24, .int 4], .int 1]) (.str ⟨#[97, 10, 10, 98]⟩))]
theorem ok_line_start_m {G GM} : okSs (Γ0 G GM) ⟨ps_line_start ++ rs_line_start, fS (dA 6)⟩ ms_line_start (fB (dA 6)) = true := by kernel_rfl
theorem ok_line_end_m {G GM} : okSs (Γ0 G GM) ⟨ps_line_end ++ rs_line_end, fS (dA 7)⟩ ms_line_end (fB (dA 7)) = true := by kernel_rfl
theorem ok_next_start_m {G GM} : okSs (Γ0 G GM) ⟨ps_next_start ++ rs_next_start, fS (dA 8)⟩ ms_next_start (fB (dA 8)) = true := by kernel_rfl
theorem ok_blanks_end_m {G GM} : okSs (Γ0 G GM) ⟨ps_blanks_end ++ rs_blanks_end, fS (dA 9)⟩ ms_blanks_end (fB (dA 9)) = true := by kernel_rfl
theorem ok_blanks_begin_m {G GM} : okSs (Γ0 G GM) ⟨ps_blanks_begin ++ rs_blanks_begin, fS (dA 10)⟩ ms_blanks_begin (fB (dA 10)) = true := by kernel_rfl
theorem ok_is_line_begin_m {G GM} : okSs (Γ0 G GM) ⟨ps_is_line_begin ++ rs_is_line_begin, fS (dA 11)⟩ ms_is_line_begin (fB (dA 11)) = true := by kernel_rfl
theorem ok_is_line_end_m {G GM} : okSs (Γ0 G GM) ⟨ps_is_line_end ++ rs_is_line_end, fS (dA 12)⟩ ms_is_line_end (fB (dA 12)) = true := by kernel_rfl
theorem ok_is_blank_line_m {G GM} : okSs (Γ0 G GM) ⟨ps_is_blank_line ++ rs_is_blank_line, fS (dA 13)⟩ ms_is_blank_line (fB (dA 13)) = true := by kernel_rfl
theorem ok_width_at_m {G GM} : okSs (Γ0 G GM) ⟨ps_width_at ++ rs_width_at, fS (dA 16)⟩ ms_width_at (fB (dA 16)) = true := by kernel_rfl
theorem ok_column_of_codes_m {G GM} : okSs (Γ0 G GM) ⟨ps_column_of_codes ++ rs_column_of_codes, fS (dA 17)⟩ ms_column_of_codes (fB (dA 17)) = true := by kernel_rfl
theorem ok_column_at_m {G GM} : okSs (Γ0 G GM) ⟨ps_column_at ++ rs_column_at, fS (dA 18)⟩ ms_column_at (fB (dA 18)) = true := by kernel_rfl
theorem ok_horizontal_edit_m {G GM} : okSs (Γ0 G GM) ⟨ps_horizontal_edit ++ rs_horizontal_edit, fS (dA 22)⟩ ms_horizontal_edit (fB (dA 22)) = true := by kernel_rfl
theorem ok_just_edit_m {G GM} : okSs (Γ0 G GM) ⟨ps_just_edit ++ rs_just_edit, fS (dA 23)⟩ ms_just_edit (fB (dA 23)) = true := by kernel_rfl
theorem ok_wants_space_m {G GM} : okSs (Γ0 G GM) ⟨ps_wants_space ++ rs_wants_space, fS (dA 24)⟩ ms_wants_space (fB (dA 24)) = true := by kernel_rfl
theorem ok_fixup_edit_m {G GM} : okSs (Γ0 G GM) ⟨ps_fixup_edit ++ rs_fixup_edit, fS (dA 25)⟩ ms_fixup_edit (fB (dA 25)) = true := by kernel_rfl
theorem ok_join_edit_m {G GM} : okSs (Γ0 G GM) ⟨ps_join_edit ++ rs_join_edit, fS (dA 26)⟩ ms_join_edit (fB (dA 26)) = true := by kernel_rfl
theorem ok_blank_run_m {G GM} : okSs (Γ0 G GM) ⟨ps_blank_run ++ rs_blank_run, fS (dA 27)⟩ ms_blank_run (fB (dA 27)) = true := by kernel_rfl
theorem ok_behind_blanks_m {G GM} : okSs (Γ0 G GM) ⟨ps_behind_blanks ++ rs_behind_blanks, fS (dA 28)⟩ ms_behind_blanks (fB (dA 28)) = true := by kernel_rfl
theorem ok_line_behind_m {G GM} : okSs (Γ0 G GM) ⟨ps_line_behind ++ rs_line_behind, fS (dA 29)⟩ ms_line_behind (fB (dA 29)) = true := by kernel_rfl
theorem ok_blank_lines_edits_m {G GM} : okSs (Γ0 G GM) ⟨ps_blank_lines_edits ++ rs_blank_lines_edits, fS (dA 30)⟩ ms_blank_lines_edits (fB (dA 30)) = true := by kernel_rfl
theorem ok_trailing_edits_m {G GM} : okSs (Γ0 G GM) ⟨ps_trailing_edits ++ rs_trailing_edits, fS (dA 31)⟩ ms_trailing_edits (fB (dA 31)) = true := by kernel_rfl
theorem ok_untabified_m {G GM} : okSs (Γ0 G GM) ⟨ps_untabified ++ rs_untabified, fS (dA 32)⟩ ms_untabified (fB (dA 32)) = true := by kernel_rfl
theorem ok_backward_edit_m {G GM} : okSs (Γ0 G GM) ⟨ps_backward_edit ++ rs_backward_edit, fS (dA 33)⟩ ms_backward_edit (fB (dA 33)) = true := by kernel_rfl
theorem ok_zap_end_m {G GM} : okSs (Γ0 G GM) ⟨ps_zap_end ++ rs_zap_end, fS (dA 34)⟩ ms_zap_end (fB (dA 34)) = true := by kernel_rfl
theorem ok_sorted_flags_m {G GM} : okSs (Γ0 G GM) ⟨ps_sorted_flags ++ rs_sorted_flags, fS (dA 45)⟩ ms_sorted_flags (fB (dA 45)) = true := by kernel_rfl
theorem ok_read_syntax_m {G GM} : okSs (Γ0 G GM) ⟨ps_read_syntax ++ rs_read_syntax, fS (dA 46)⟩ ms_read_syntax (fB (dA 46)) = true := by kernel_rfl
theorem ok_letters_m {G GM} : okSs (Γ0 G GM) ⟨ps_letters ++ rs_letters, fS (dA 48)⟩ ms_letters (fB (dA 48)) = true := by kernel_rfl
theorem ok_standard_table_m {G GM} : okSs (Γ0 G GM) ⟨ps_standard_table ++ rs_standard_table, fS (dA 49)⟩ ms_standard_table (fB (dA 49)) = true := by kernel_rfl
theorem ok_law_draw_m {G GM} : okSs (Γ0 G GM) ⟨ps_law_draw ++ rs_law_draw, fS (dA 53)⟩ ms_law_draw (fB (dA 53)) = true := by kernel_rfl
theorem ok_law_deck_of_m {G GM} : okSs (Γ0 G GM) ⟨ps_law_deck_of ++ rs_law_deck_of, fS (dA 54)⟩ ms_law_deck_of (fB (dA 54)) = true := by kernel_rfl
theorem ok_law_one_m {G GM} : okSs (Γ0 G GM) ⟨ps_law_one ++ rs_law_one, fS (dA 55)⟩ ms_law_one (fB (dA 55)) = true := by kernel_rfl
theorem ok_law_done_m {G GM} : okSs (Γ0 G GM) ⟨ps_law_done ++ rs_law_done, fS (dA 57)⟩ ms_law_done (fB (dA 57)) = true := by kernel_rfl
theorem ok_law_blank_m {G GM} : okSs (Γ0 G GM) ⟨ps_law_blank ++ rs_law_blank, fS (dA 58)⟩ ms_law_blank (fB (dA 58)) = true := by kernel_rfl
theorem ok_law_without_blanks_m {G GM} : okSs (Γ0 G GM) ⟨ps_law_without_blanks ++ rs_law_without_blanks, fS (dA 59)⟩ ms_law_without_blanks (fB (dA 59)) = true := by kernel_rfl
theorem ok_law_joined_m {G GM} : okSs (Γ0 G GM) ⟨ps_law_joined ++ rs_law_joined, fS (dA 60)⟩ ms_law_joined (fB (dA 60)) = true := by kernel_rfl
theorem ok_law_around_m {G GM} : okSs (Γ0 G GM) ⟨ps_law_around ++ rs_law_around, fS (dA 61)⟩ ms_law_around (fB (dA 61)) = true := by kernel_rfl
theorem ok_TextRow_begin_m {G GM} : okSs (Γ0 G GM) ⟨ps_TextRow_begin ++ rs_TextRow_begin, fS (dM 51 1)⟩ ms_TextRow_begin (fB (dM 51 1)) = true := by kernel_rfl
theorem ok_TextRow_end_m {G GM} : okSs (Γ0 G GM) ⟨ps_TextRow_end ++ rs_TextRow_end, fS (dM 51 2)⟩ ms_TextRow_end (fB (dM 51 2)) = true := by kernel_rfl
theorem ok_TextRow_code_at_m {G GM} : okSs (Γ0 G GM) ⟨ps_TextRow_code_at ++ rs_TextRow_code_at, fS (dM 51 3)⟩ ms_TextRow_code_at (fB (dM 51 3)) = true := by kernel_rfl
theorem ok_SyntaxTable_kind_of_m {G GM} : okSs (Γ0 G GM) ⟨ps_SyntaxTable_kind_of ++ rs_SyntaxTable_kind_of, fS (dM 47 6)⟩ ms_SyntaxTable_kind_of (fB (dM 47 6)) = true := by kernel_rfl
theorem ok_SyntaxTable_own_m {G GM} : okSs (Γ0 G GM) ⟨ps_SyntaxTable_own ++ rs_SyntaxTable_own, fS (dM 47 4)⟩ ms_SyntaxTable_own (fB (dM 47 4)) = true := by kernel_rfl
theorem ok_SyntaxTable_at_m {G GM} : okSs (Γ0 G GM) ⟨ps_SyntaxTable_at ++ rs_SyntaxTable_at, fS (dM 47 5)⟩ ms_SyntaxTable_at (fB (dM 47 5)) = true := by kernel_rfl
theorem ok_SyntaxTable_modify_all_m {G GM} : okSs (Γ0 G GM) ⟨ps_SyntaxTable_modify_all ++ rs_SyntaxTable_modify_all, fS (dM 47 2)⟩ ms_SyntaxTable_modify_all (fB (dM 47 2)) = true := by kernel_rfl
theorem ok_law_m {G GM} : okSs (Γ0 G GM) ⟨ps_law ++ rs_law, fS (dA 62)⟩ ms_law (fB (dA 62)) = true := by kernel_rfl
structure Hid (p : Prop) : Prop where
  g : p
noncomputable def S8 (l : List Nat) : Str := ⟨l.toArray⟩
theorem S8_list (l : List Nat) : (S8 l).cps.toList = l := rfl
theorem S8_len (l : List Nat) : (S8 l).length = l.length := by simp [S8, Str.length]
theorem S8_of (x : Str) : x = S8 x.cps.toList := by
  obtain ⟨⟨l⟩⟩ := x; rfl
theorem S8_eq {a b : List Nat} : S8 a = S8 b ↔ a = b := by
  constructor
  · intro h
    have := congrArg (fun x : Str => x.cps.toList) h
    exact this
  · rintro rfl; rfl
theorem S8_beq (a b : List Nat) : (S8 a == S8 b) = decide (a = b) := by
  by_cases h : a = b
  · subst h; simp
  · have : S8 a ≠ S8 b := fun e => h (S8_eq.mp e)
    simp [h, this]
theorem S8_app (a b : List Nat) : S8 a ++ S8 b = S8 (a ++ b) := by
  show (⟨a.toArray ++ b.toArray⟩ : Str) = ⟨(a ++ b).toArray⟩
  simp
theorem of_list {x : Str} {l : List Nat} (h : x.cps.toList = l) : x = S8 l := by rw [S8_of x, h]
theorem slice_eq (x : Str) (l u : Option Int) : Txt.slice x l u = StrLaws.sliceText x l u := rfl
theorem slice_to (l : List Nat) {j : Nat} (h : j ≤ l.length) : Txt.slice (S8 l) none (some (j : Int)) = S8 (l.take j) := by
  rw [slice_eq, StrLaws.sliceText_to ⟨by (clear h; lia), by rw [S8_list]; lia⟩, S8_list]
  simp [S8]
theorem slice_from (l : List Nat) {i : Nat} (h : i ≤ l.length) : Txt.slice (S8 l) (some (i : Int)) none = S8 (l.drop i) := by
  rw [slice_eq, StrLaws.sliceText_from ⟨by lia, by rw [S8_list]; lia⟩, S8_list]
  have e : ((l.length : Int) - (i : Int)).toNat = (l.drop i).length := by rw [List.length_drop]; lia
  have e2 : ((i : Int)).toNat = i := by (clear e; lia)
  rw [e, e2, List.take_length]; rfl
theorem slice_mid (l : List Nat) {i j : Nat} (h : i ≤ j) (h2 : j ≤ l.length) : Txt.slice (S8 l) (some (i : Int)) (some (j : Int)) = S8 ((l.drop i).take (j - i)) := by
  rw [slice_eq, StrLaws.sliceText_plain ⟨by (clear h2 h; lia), by lia, by rw [S8_list]; (clear h; lia)⟩, S8_list]
  have e : ((j : Int) - (i : Int)).toNat = j - i := by (clear h2; lia)
  have e2 : ((i : Int)).toNat = i := by (clear e h2; lia)
  rw [e, e2]; rfl
theorem item_nn (l : List Nat) {i : Nat} {c : Nat} (h : l[i]? = some c) : Txt.item (S8 l) (i : Int) = S8 [c] := by
  have hl := (List.getElem?_eq_some_iff.mp h).1
  unfold Txt.item Txt.charAt
  rw [StrLaws.at_nonneg (x := S8 l) (i := (i : Int)) (n := c) (by (clear hl h; lia)) (by
    have e2 : ((i : Int)).toNat = i := by (clear hl h; lia)
    rw [e2, ← Array.getElem?_toList, S8_list]; exact h)]
  rfl
theorem item_last (l : List Nat) (c : Nat) : Txt.item (S8 (l ++ [c])) (-1) = S8 [c] := by
  unfold Txt.item Txt.charAt
  have hn : (S8 (l ++ [c])).length = l.length + 1 := by rw [S8_len]; simp
  rw [StrLaws.at_neg (x := S8 (l ++ [c])) (i := -1) (n := c) (by (clear hn; lia)) (by rw [hn]; (clear hn; lia)) (by
    rw [hn]
    have e2 : ((-1 : Int) + ((l.length + 1 : Nat) : Int)).toNat = l.length := by lia
    rw [e2, ← Array.getElem?_toList, S8_list]
    simp)]
  rfl
theorem contains_one (l : List Nat) (c : Nat) : Txt.contains (S8 l) (S8 [c]) = decide (c ∈ l) := StrLaws.found_one (S8 l) c
theorem contains_nil (c : Nat) : Txt.contains (S8 []) (S8 [c]) = false := by rw [contains_one]; simp
noncomputable def joinL (sep : List Nat) : List (List Nat) → List Nat
  | [] => []
  | [a] => a
  | a :: b :: r => a ++ sep ++ joinL sep (b :: r)
theorem join_S8 (sep : List Nat) : ∀ ls : List (List Nat), Txt.join (S8 sep) (ls.map S8) = S8 (joinL sep ls) := by
  intro ls
  unfold Txt.join
  rw [StrLaws.glued_eq_join]
  induction ls with
  | nil => rfl
  | cons a r ih =>
    cases r with
    | nil => rfl
    | cons b r =>
      show S8 a ++ S8 sep ++ Str.join (S8 sep) ((b :: r).map S8) = _
      rw [ih, S8_app, S8_app]; rfl
noncomputable def splitNL : List Nat → List (List Nat)
  | [] => [[]]
  | c :: r => if c = 10 then [] :: splitNL r else match splitNL r with
    | [] => [[c]]
    | a :: t => (c :: a) :: t
theorem splitNL_ne : ∀ l, splitNL l ≠ []
  | [] => by simp [splitNL]
  | c :: r => by
    unfold splitNL
    split
    · simp
    · split <;> simp
theorem join_splitNL : ∀ l, joinL [10] (splitNL l) = l
  | [] => rfl
  | c :: r => by
    have ih := join_splitNL r
    unfold splitNL
    by_cases h : c = 10
    · rw [if_pos h]
      cases q : splitNL r with
      | nil => exact absurd q (splitNL_ne r)
      | cons a t =>
        rw [q] at ih
        show [] ++ [10] ++ joinL [10] (a :: t) = _
        rw [ih, h]; rfl
    · rw [if_neg h]
      cases q : splitNL r with
      | nil => exact absurd q (splitNL_ne r)
      | cons a t =>
        rw [q] at ih
        cases t with
        | nil => show c :: a = _; rw [← ih]; rfl
        | cons b t =>
          show (c :: a) ++ [10] ++ joinL [10] (b :: t) = _
          rw [← ih]; rfl
theorem free_splitNL : ∀ l, ∀ a ∈ splitNL l, 10 ∉ a
  | [], a, h => by simp [splitNL] at h; subst h; simp
  | c :: r, a, h => by
    have ih := free_splitNL r
    unfold splitNL at h
    by_cases e : c = 10
    · rw [if_pos e] at h
      rcases List.mem_cons.mp h with rfl | h
      · simp
      · exact ih a h
    · rw [if_neg e] at h
      cases q : splitNL r with
      | nil => exact absurd q (splitNL_ne r)
      | cons b t =>
        rw [q] at h ih
        rcases List.mem_cons.mp h with rfl | h
        · intro hm
          rcases List.mem_cons.mp hm with hm | hm
          · exact e hm.symm
          · exact ih b (.head _) hm
        · exact ih a (.tail _ h)
theorem split_append {a : List Nat} (h : 10 ∉ a) : ∀ r, splitNL (a ++ 10 :: r) = a :: splitNL r := by
  induction a with
  | nil => intro r; show splitNL (10 :: r) = _; rw [splitNL, if_pos rfl]
  | cons c a ih =>
    intro r
    have hc : c ≠ 10 := fun e => h (e ▸ .head _)
    show splitNL (c :: (a ++ 10 :: r)) = _
    rw [splitNL, if_neg hc, ih (fun q => h (.tail _ q))]
theorem split_free_one {a : List Nat} (h : 10 ∉ a) : splitNL a = [a] := by
  induction a with
  | nil => rfl
  | cons c a ih =>
    have hc : c ≠ 10 := fun e => h (e ▸ .head _)
    rw [splitNL, if_neg hc, ih (fun q => h (.tail _ q))]
theorem splitNL_join : ∀ ls : List (List Nat), ls ≠ [] → (∀ a ∈ ls, 10 ∉ a) → splitNL (joinL [10] ls) = ls
  | [], h, _ => absurd rfl h
  | [a], _, h => split_free_one (h a (.head _))
  | a :: b :: r, _, h => by
    show splitNL (a ++ [10] ++ joinL [10] (b :: r)) = _
    rw [List.append_assoc, List.singleton_append, split_append (h a (.head _)), splitNL_join (b :: r) (by simp) fun x hx => h x (.tail _ hx)]
theorem split_S8 (l : List Nat) : Txt.split (S8 l) (S8 [10]) = (splitNL l).map S8 := by
  have h1 := StrLaws.join_split (S8 l) (S8 [10])
  have h2 : ∀ p ∈ Txt.split (S8 l) (S8 [10]), 10 ∉ p.cps.toList := StrLaws.split_free (S8 l) 10
  have hne : Txt.split (S8 l) (S8 [10]) ≠ [] := by
    unfold Txt.split
    split
    · simp
    · split
      · simp
      · rw [StrLaws.partsBetween_eq]
        obtain ⟨p, r, e⟩ := StrLaws.partsFrom_ne (S8 l) (S8 [10]).length 0 (Builtin.Str.occurrences (S8 l) (S8 [10]) 0 (S8 l).length ((S8 l).length + 1))
        rw [e]; simp
  generalize Txt.split (S8 l) (S8 [10]) = ts at h1 h2 hne
  have e : ts = (ts.map fun x : Str => x.cps.toList).map S8 := by
    rw [List.map_map]
    conv => lhs; rw [← List.map_id ts]
    exact List.map_congr_left fun x _ => S8_of x
  have h3 : S8 (joinL [10] (ts.map fun x : Str => x.cps.toList)) = S8 l := by
    rw [← join_S8, ← e]
    unfold Txt.join
    rw [StrLaws.glued_eq_join]; exact h1
  rw [S8_eq] at h3
  rw [e, ← h3, splitNL_join _ (by simpa using hne) (by
    intro a ha
    obtain ⟨x, hx, rfl⟩ := List.mem_map.mp ha
    exact h2 x hx)]
noncomputable def isB (c : Nat) : Bool := c == 32 || c == 9
noncomputable def lst (l : List Nat) : List Nat := l.dropWhile isB
noncomputable def rst (l : List Nat) : List Nat := (l.reverse.dropWhile isB).reverse
theorem goesB : (S8 [32, 9]).cps.contains = isB := by
  funext c
  show (#[32, 9] : Array Nat).contains c = (c == 32 || c == 9)
  simp
  rw [Bool.eq_iff_iff]; simp
theorem drop_takeWhile (p : Nat → Bool) : ∀ l : List Nat, l.drop (l.takeWhile p).length = l.dropWhile p
  | [] => rfl
  | a :: r => by
    by_cases h : p a = true
    · simp [h, drop_takeWhile p r]
    · simp [h]
theorem take_rev (p : Nat → Bool) (l : List Nat) : l.take (l.length - (l.reverse.takeWhile p).length) = (l.reverse.dropWhile p).reverse := by
  have h := drop_takeWhile p l.reverse
  have e : l.take (l.length - (l.reverse.takeWhile p).length) = (l.reverse.drop (l.reverse.takeWhile p).length).reverse := by
    rw [List.drop_reverse, List.reverse_reverse]
  rw [e, h]
theorem lstrip_S8 (l : List Nat) : Txt.lstripChars (S8 l) (S8 [32, 9]) = S8 (lst l) := by
  unfold Txt.lstripChars
  rw [goesB, PyProof.Rows.stripBy_eq]
  refine of_list ?_
  rw [StrLaws.strSub_toList, S8_list]
  show (l.drop (l.takeWhile isB).length).take ((S8 l).length - (l.takeWhile isB).length) = _
  rw [S8_len, ← List.length_drop, List.take_length]
  exact drop_takeWhile isB l
theorem rstrip_S8 (l : List Nat) : Txt.rstripChars (S8 l) (S8 [32, 9]) = S8 (rst l) := by
  unfold Txt.rstripChars
  rw [goesB, PyProof.Rows.stripBy_eq]
  refine of_list ?_
  rw [StrLaws.strSub_toList, S8_list]
  show (l.drop 0).take ((S8 l).length - ((l.drop 0).reverse.takeWhile isB).length - 0) = _
  rw [S8_len, List.drop_zero, Nat.sub_zero]
  exact take_rev isB l
theorem strip_S8 (l : List Nat) : Txt.stripChars (S8 l) (S8 [32, 9]) = S8 (rst (lst l)) := by
  unfold Txt.stripChars
  rw [goesB, PyProof.Rows.stripBy_eq]
  refine of_list ?_
  rw [StrLaws.strSub_toList, S8_list]
  show (l.drop (l.takeWhile isB).length).take ((S8 l).length - ((l.drop (l.takeWhile isB).length).reverse.takeWhile isB).length - (l.takeWhile isB).length) = _
  rw [S8_len, drop_takeWhile, Nat.sub_right_comm]
  have e : l.length - (l.takeWhile isB).length = (l.dropWhile isB).length := by rw [← drop_takeWhile, List.length_drop]
  rw [e]
  exact take_rev isB (l.dropWhile isB)
theorem count_S8 (l : List Nat) : Txt.count (S8 l) (S8 [10]) = ((l.count 10 : Nat) : Int) := by
  rw [show Txt.count (S8 l) (S8 [10]) = cnt 10 l from count_cnt (S8 l) 10]
  induction l with
  | nil => rfl
  | cons a r ih =>
    rw [cnt_cons, ih, List.count_cons]
    by_cases h : a = 10
    · simp [h]; (clear h ih; lia)
    · simp [h]
theorem mul_S8 (n : Nat) : Txt.mul (S8 [32]) (n : Int) = S8 (List.replicate n 32) := by
  unfold Txt.mul
  by_cases h : (n : Int) < 1
  · have : n = 0 := by lia
    subst this; rfl
  · rw [if_neg h]
    by_cases h2 : n = 1
    · subst h2; rfl
    · have e : ((n : Int) == 1 || (S8 [32]).length == 0) = false := by
        rw [S8_len]
        have : ((n : Int) == 1) = false := beq_eq_false_iff_ne.mpr (by lia)
        rw [this]; rfl
      rw [e]
      have e2 : ((n : Int)).toNat = n := by lia
      rw [if_neg (by decide), e2]
      refine of_list ?_
      show ((List.replicate n (#[32] : Array Nat)).foldl (· ++ ·) #[]).toList = _
      have key : ∀ (k : Nat) (acc : Array Nat), ((List.replicate k (#[32] : Array Nat)).foldl (· ++ ·) acc).toList = acc.toList ++ List.replicate k 32 := by
        intro k
        induction k with
        | zero => intro acc; simp
        | succ k ih => intro acc; rw [List.replicate_succ, List.foldl_cons, ih, List.replicate_succ]; simp
      rw [key]; rfl
theorem joinOk_S8 {sep : List Nat} {ls : List (List Nat)} {B : Nat} (h : ∀ a ∈ ls, a.length ≤ B) (h2 : ls.length * B + ls.length * sep.length ≤ 16777216) : JoinOk (S8 sep) (ls.map S8) = true := by
  unfold JoinOk
  rw [Bool.not_eq_true']
  refine StrLaws.joinFits (B := B) (fun y hy => ?_) ?_
  · obtain ⟨a, ha, rfl⟩ := List.mem_map.mp hy
    rw [S8_len]; exact h a ha
  · rw [List.length_map, S8_len]; exact h2
noncomputable def VW (cs : List Nat) (f : Int) : D := .inst cTextRow [(tS "codes", .list (cs.map fun c => .int (c : Nat))), (tS "place", .int f)]
structure Sm (cs : List Nat) (f : Int) : Prop where
  n : cs.length ≤ 4000
  lo : 1 ≤ f
  hi : f ≤ 1000
noncomputable def cAt (cs : List Nat) (i : Nat) : Nat := cs.getD i 0
noncomputable def ls (cs : List Nat) : Nat → Nat
  | 0 => 0
  | i + 1 => if cAt cs i = 10 then i + 1 else ls cs i
noncomputable def bb (cs : List Nat) : Nat → Nat
  | 0 => 0
  | i + 1 => if isB (cAt cs i) then bb cs i else i + 1
noncomputable def leF (cs : List Nat) : Nat → Nat → Nat
  | 0, i => i
  | k + 1, i => if cAt cs i = 10 then i else leF cs k (i + 1)
noncomputable def le (cs : List Nat) (i : Nat) : Nat := leF cs (cs.length - i) i
noncomputable def beF (cs : List Nat) : Nat → Nat → Nat
  | 0, i => i
  | k + 1, i => if isB (cAt cs i) then beF cs k (i + 1) else i
theorem beF_s {cs : List Nat} {k i : Nat} : beF cs (k + 1) i = if isB (cAt cs i) then beF cs k (i + 1) else i := rfl
noncomputable def be (cs : List Nat) (i : Nat) : Nat := beF cs (cs.length - i) i
noncomputable def ilb (cs : List Nat) (i : Nat) : Bool := decide (i = 0) || decide (cAt cs (i - 1) = 10)
noncomputable def ile (cs : List Nat) (i : Nat) : Bool := decide (i = cs.length) || decide (cAt cs i = 10)
noncomputable def blk (cs : List Nat) (i : Nat) : Bool := ile cs (be cs (ls cs i))
noncomputable def ns (cs : List Nat) (i : Nat) : Option Nat := if le cs i < cs.length then some (le cs i + 1) else none
noncomputable def posO (f : Int) : Option Nat → Int
  | some i => f + (i : Nat)
  | none => -1
noncomputable def behF (cs : List Nat) : Nat → Option Nat → Option Nat
  | 0, o => o
  | _ + 1, none => none
  | k + 1, some i => if blk cs i then behF cs k (ns cs i) else some i
theorem behF_s {cs : List Nat} {k i : Nat} : behF cs (k + 1) (some i) = if blk cs i then behF cs k (ns cs i) else some i := rfl
noncomputable def beh (cs : List Nat) (i : Nat) : Nat := (behF cs (cs.length + 1) (ns cs i)).getD cs.length
noncomputable def lbh (cs : List Nat) (i : Nat) : Nat := (ns cs i).getD cs.length
noncomputable def brF (cs : List Nat) : Nat → Nat → Nat
  | 0, i => i
  | k + 1, i => if decide (0 < i) && blk cs (i - 1) then brF cs k (ls cs (i - 1)) else i
theorem brF_s {cs : List Nat} {k i : Nat} : brF cs (k + 1) i = if decide (0 < i) && blk cs (i - 1) then brF cs k (ls cs (i - 1)) else i := rfl
noncomputable def br (cs : List Nat) (i : Nat) : Nat := brF cs (cs.length + 1) (ls cs i)
noncomputable def sp_begin (ds : List D) (μ : Mem) (k : KE) : Prop := ∃ cs f, ds = [VW cs f] ∧ Sm cs f ∧ k (.int f) μ
noncomputable def sp_end (ds : List D) (μ : Mem) (k : KE) : Prop := ∃ cs f, ds = [VW cs f] ∧ Sm cs f ∧ k (.int (f + (cs.length : Nat))) μ
noncomputable def sp_code_at (ds : List D) (μ : Mem) (k : KE) : Prop := ∃ cs f i, ds = [VW cs f, .int (f + (i : Nat))] ∧ Sm cs f ∧ i < cs.length ∧ k (.int (cAt cs i : Nat)) μ
noncomputable def sp_at (g : List Nat → Nat → Nat) (ds : List D) (μ : Mem) (k : KE) : Prop := ∃ cs f i, ds = [VW cs f, .int (f + (i : Nat))] ∧ Sm cs f ∧ i ≤ cs.length ∧ k (.int (f + (g cs i : Nat))) μ
noncomputable def sp_atB (g : List Nat → Nat → Bool) (ds : List D) (μ : Mem) (k : KE) : Prop := ∃ cs f i, ds = [VW cs f, .int (f + (i : Nat))] ∧ Sm cs f ∧ i ≤ cs.length ∧ k (.bool (g cs i)) μ
noncomputable def sp_next_start (ds : List D) (μ : Mem) (k : KE) : Prop := ∃ cs f i, ds = [VW cs f, .int (f + (i : Nat))] ∧ Sm cs f ∧ i ≤ cs.length ∧ k (.int (posO f (ns cs i))) μ
noncomputable def rk (j : Nat) : Nat := [1, 1, 2, 1, 1, 1, 1, 2, 0, 1, 2, 2, 2, 5, 6, 6, 4, 3, 3, 5, 2, 3, 4, 1, 1, 2, 0, 4, 0, 0, 1, 2, 0, 0, 1, 0, 0, 1, 1, 1].getD j 100
noncomputable def rkM (j : Nat) : Nat := [0, 0, 0, 4, 1, 3, 3].getD j 100
noncomputable def bigT (l : List Nat) (j : Nat) (P : Prop) : Prop := P
theorem ls_le (cs : List Nat) : ∀ i, ls cs i ≤ i
  | 0 => Nat.le_refl _
  | i + 1 => by
    unfold ls
    split
    · exact Nat.le_refl _
    · exact Nat.le_succ_of_le (ls_le cs i)
theorem bb_le (cs : List Nat) : ∀ i, bb cs i ≤ i
  | 0 => Nat.le_refl _
  | i + 1 => by
    unfold bb
    split
    · exact Nat.le_succ_of_le (bb_le cs i)
    · exact Nat.le_refl _
theorem leF_bd (cs : List Nat) : ∀ k i, i ≤ leF cs k i ∧ leF cs k i ≤ i + k
  | 0, i => ⟨Nat.le_refl _, Nat.le_refl _⟩
  | k + 1, i => by
    unfold leF
    have := leF_bd cs k (i + 1)
    split <;> lia
theorem beF_bd (cs : List Nat) : ∀ k i, i ≤ beF cs k i ∧ beF cs k i ≤ i + k
  | 0, i => ⟨Nat.le_refl _, Nat.le_refl _⟩
  | k + 1, i => by
    rw [beF_s]
    have := beF_bd cs k (i + 1)
    split <;> lia
theorem le_bd (cs : List Nat) {i : Nat} (h : i ≤ cs.length) : i ≤ le cs i ∧ le cs i ≤ cs.length := by
  have := leF_bd cs (cs.length - i) i
  unfold le; lia
theorem be_bd (cs : List Nat) {i : Nat} (h : i ≤ cs.length) : i ≤ be cs i ∧ be cs i ≤ cs.length := by
  have := beF_bd cs (cs.length - i) i
  unfold be; lia
theorem le_step (cs : List Nat) {i : Nat} (h : i < cs.length) (hc : cAt cs i ≠ 10) : le cs i = le cs (i + 1) := by
  unfold le
  rw [show cs.length - i = (cs.length - (i + 1)) + 1 by lia]
  rw [leF, if_neg hc]
theorem le_stop (cs : List Nat) {i : Nat} (h : i ≤ cs.length) (hc : i = cs.length ∨ cAt cs i = 10) : le cs i = i := by
  unfold le
  rcases hc with rfl | hc
  · rw [Nat.sub_self]; rfl
  · cases q : cs.length - i with
    | zero => rfl
    | succ k => rw [leF, if_pos hc]
theorem be_step (cs : List Nat) {i : Nat} (h : i < cs.length) (hc : isB (cAt cs i) = true) : be cs i = be cs (i + 1) := by
  unfold be
  rw [show cs.length - i = (cs.length - (i + 1)) + 1 by lia]
  rw [beF, if_pos hc]
theorem be_stop (cs : List Nat) {i : Nat} (h : i ≤ cs.length) (hc : i = cs.length ∨ isB (cAt cs i) = false) : be cs i = i := by
  unfold be
  rcases hc with rfl | hc
  · rw [Nat.sub_self]; rfl
  · cases q : cs.length - i with
    | zero => rfl
    | succ k => rw [beF, if_neg (by rw [hc]; exact Bool.false_ne_true)]
section
variable {G GM : Nat → List D → Mem → KE → Prop} {cs : List Nat} {f : Int} {i : Nat} {μ : Mem} {k : KE}
theorem vc_begin {ds} (h : sp_begin ds μ k) : vcSs (Γ0 G GM) ms_TextRow_begin (ds ++ List.replicate 0 .undef) μ (retK k) := by
  obtain ⟨cs, f, rfl, hs, hk⟩ := h
  exact ⟨rfl, rfl, _, rfl, hk⟩
theorem vc_end {ds} (h : sp_end ds μ k) : vcSs (Γ0 G GM) ms_TextRow_end (ds ++ List.replicate 0 .undef) μ (retK k) := by
  obtain ⟨cs, f, rfl, hs, hk⟩ := h
  refine ⟨rfl, rfl, _, rfl, (⟨rfl, rfl, _, rfl, And.intro ?_ ?_⟩)⟩
  · show (cs.map _).length ≤ sizeLine
    rw [List.length_map, sizeLine_eq]; have := hs.n; lia
  · show k (.int (f + ((cs.map _).length : Nat))) μ
    rw [List.length_map]; exact hk
theorem vc_code_at {ds} (h : sp_code_at ds μ k) : vcSs (Γ0 G GM) ms_TextRow_code_at (ds ++ List.replicate 0 .undef) μ (retK k) := by
  obtain ⟨cs, f, i, rfl, hs, hi, hk⟩ := h
  have hl : (cs.map fun c => D.int (c : Nat)).length ≤ sizeLine := by rw [List.length_map, sizeLine_eq]; have := hs.n; lia
  have hl2 : ((cs.map fun c => D.int (c : Nat)).length : Int) = cs.length := by rw [List.length_map]
  have hm := hs.lo
  refine ⟨rfl, rfl, _, rfl, (And.intro (fun h => ?_) (fun _ => ?_))⟩
  · exact absurd (show f ≤ f + (i : Int) by (clear h hl hi; lia)) (of_decide_eq_false h)
  · refine ⟨rfl, rfl, _, rfl, (⟨rfl, rfl, _, rfl, And.intro hl ?_⟩)⟩
    refine And.intro (fun _ => ?_) (fun h => ?_)
    · refine ⟨rfl, rfl, _, rfl, (⟨rfl, rfl, _, rfl, And.intro hl ⟨.int (cAt cs i : Nat), ?_, hk⟩⟩)⟩
      unfold getAt
      rw [if_pos (by (clear hl hi; lia))]
      have e : (f + (i : Int) - f).toNat = i := by (clear hl; lia)
      rw [e, List.getElem?_map]
      unfold cAt
      rw [List.getD_eq_getElem?_getD, List.getElem?_eq_getElem hi]; rfl
    · exact absurd (show f + (i : Int) < f + ((cs.map fun c => D.int (c : Nat)).length : Nat) by rw [hl2]; (clear hl2 hl; lia)) (of_decide_eq_false h)
end
noncomputable def AllSp (g : Nat → List D → Mem → KE → Prop) (j : Nat) (sp : List D → Mem → KE → Prop) : Prop := ∀ ds μ k, sp ds μ k → g j ds μ k
noncomputable abbrev iAt (l : List D) (i : Nat) : Int := (intOf (l.getD i .undef)).getD 0
section
variable {G GM : Nat → List D → Mem → KE → Prop} {cs : List Nat} {f : Int} {i : Nat} {μ : Mem} {k : KE}
theorem AllSp.b (h : AllSp GM 0 sp_begin) (hs : Sm cs f) (hk : k (.int f) μ) : GM 0 [VW cs f] μ k := h _ _ _ ⟨cs, f, rfl, hs, hk⟩
theorem AllSp.e (h : AllSp GM 1 sp_end) (hs : Sm cs f) (hk : k (.int (f + (cs.length : Nat))) μ) : GM 1 [VW cs f] μ k := h _ _ _ ⟨cs, f, rfl, hs, hk⟩
theorem AllSp.c (h : AllSp GM 2 sp_code_at) (hs : Sm cs f) {q : Int} (i : Nat) (hq : q = f + (i : Nat)) (hi : i < cs.length) (hk : k (.int (cAt cs i : Nat)) μ) : GM 2 [VW cs f, .int q] μ k := h _ _ _ ⟨cs, f, i, by rw [hq], hs, hi, hk⟩
theorem AllSp.a {j : Nat} {g : List Nat → Nat → Nat} (h : AllSp G j (sp_at g)) (hs : Sm cs f) {q : Int} (i : Nat) (hq : q = f + (i : Nat)) (hi : i ≤ cs.length) (hk : k (.int (f + (g cs i : Nat))) μ) : G j [VW cs f, .int q] μ k := h _ _ _ ⟨cs, f, i, by rw [hq], hs, hi, hk⟩
theorem AllSp.t {j : Nat} {g : List Nat → Nat → Bool} (h : AllSp G j (sp_atB g)) (hs : Sm cs f) {q : Int} (i : Nat) (hq : q = f + (i : Nat)) (hi : i ≤ cs.length) (hk : k (.bool (g cs i)) μ) : G j [VW cs f, .int q] μ k := h _ _ _ ⟨cs, f, i, by rw [hq], hs, hi, hk⟩
theorem AllSp.n (h : AllSp G 2 sp_next_start) (hs : Sm cs f) {q : Int} (i : Nat) (hq : q = f + (i : Nat)) (hi : i ≤ cs.length) (hk : k (.int (posO f (ns cs i))) μ) : G 2 [VW cs f, .int q] μ k := h _ _ _ ⟨cs, f, i, by rw [hq], hs, hi, hk⟩
theorem vc_line_start (m0 : AllSp GM 0 sp_begin) (m2 : AllSp GM 2 sp_code_at) {ds} (h : sp_at ls ds μ k) : vcSs (Γ0 G GM) ms_line_start (ds ++ List.replicate 1 .undef) μ (retK k) := by
  obtain ⟨cs, f, i, rfl, hs, hi, hk⟩ := h
  refine ⟨fun l m => ∃ j : Nat, l = [VW cs f, .int (f + (i : Nat)), .int (f + (j : Nat))] ∧ m = μ ∧ j ≤ i ∧ ls cs j = ls cs i, fun l _ => (iAt l 2 - f).toNat, ⟨i, rfl, rfl, Nat.le_refl _, rfl⟩, ?_⟩
  rintro l m ⟨j, rfl, rfl, hj, hl⟩
  refine And.intro ⟨rfl, rfl⟩ (m0.b hs ?_)
  refine And.intro (fun h => ?_) (fun h => ?_)
  · have hj0 : j = 0 := by have := of_decide_eq_false h; lia
    subst hj0
    refine And.intro (fun h => by cases h) (fun _ => ?_)
    show k (.int (f + ((0 : Nat) : Int))) m
    rw [← hl] at hk; exact hk
  · have hj0 : 0 < j := by have := of_decide_eq_true h; (clear hl hj hi; lia)
    refine And.intro ⟨rfl, rfl⟩ (m2.c hs (j - 1) (by lia) (by lia) ?_)
    refine And.intro (fun h => ?_) (fun h => ?_)
    · have hc : cAt cs (j - 1) = 10 := by
        have : ((cAt cs (j - 1) : Int) != 10) = false := h
        have := by simpa using this
        lia
      refine And.intro (fun h => by cases h) (fun _ => ?_)
      show k (.int (f + (j : Nat))) m
      have e : ls cs j = j := by
        rw [show j = (j - 1) + 1 by (clear hc hl hj hi; lia), ls, if_pos hc]
      rw [← hl, e] at hk; exact hk
    · have hc : cAt cs (j - 1) ≠ 10 := by
        have : ((cAt cs (j - 1) : Int) != 10) = true := h
        have := by simpa using this
        lia
      refine And.intro (fun _ => ?_) (fun h => by cases h)
      have e : ls cs j = ls cs (j - 1) := by
        conv => lhs; rw [show j = (j - 1) + 1 by lia, ls, if_neg hc]
      refine ⟨⟨j - 1, ?_, rfl, by lia, by rw [← hl, e]⟩, ?_⟩
      · show [VW cs f, .int (f + (i : Nat)), D.int (f + (j : Int) - 1)] = _
        rw [show f + (j : Int) - 1 = f + ((j - 1 : Nat) : Int) by lia]
      · show (f + (j : Int) - 1 - f).toNat < (f + (j : Int) - f).toNat
        lia
theorem vc_line_end (m1 : AllSp GM 1 sp_end) (m2 : AllSp GM 2 sp_code_at) {ds} (h : sp_at le ds μ k) : vcSs (Γ0 G GM) ms_line_end (ds ++ List.replicate 1 .undef) μ (retK k) := by
  obtain ⟨cs, f, i, rfl, hs, hi, hk⟩ := h
  refine ⟨fun l m => ∃ j : Nat, l = [VW cs f, .int (f + (i : Nat)), .int (f + (j : Nat))] ∧ m = μ ∧ j ≤ cs.length ∧ le cs j = le cs i, fun l _ => (f + cs.length - iAt l 2).toNat, ⟨i, rfl, rfl, hi, rfl⟩, ?_⟩
  rintro l m ⟨j, rfl, rfl, hj, hl⟩
  refine And.intro ⟨rfl, rfl⟩ (m1.e hs ?_)
  refine And.intro (fun h => ?_) (fun h => ?_)
  · have hj0 : j = cs.length := by have := of_decide_eq_false h; lia
    refine And.intro (fun h => by cases h) (fun _ => ?_)
    show k (.int (f + (j : Nat))) m
    rw [← hl, le_stop cs hj (.inl hj0)] at hk; exact hk
  · have hj0 : j < cs.length := by have := of_decide_eq_true h; (clear hl hj hi; lia)
    refine And.intro ⟨rfl, rfl⟩ (m2.c hs j rfl hj0 ?_)
    refine And.intro (fun h => ?_) (fun h => ?_)
    · have hc : cAt cs j = 10 := by
        have : ((cAt cs j : Int) != 10) = false := h
        have := by simpa using this
        lia
      refine And.intro (fun h => by cases h) (fun _ => ?_)
      show k (.int (f + (j : Nat))) m
      rw [← hl, le_stop cs hj (.inr hc)] at hk; exact hk
    · have hc : cAt cs j ≠ 10 := by
        have : ((cAt cs j : Int) != 10) = true := h
        have := by simpa using this
        lia
      refine And.intro (fun _ => ?_) (fun h => by cases h)
      refine ⟨⟨j + 1, ?_, rfl, hj0, by rw [← hl, le_step cs hj0 hc]⟩, ?_⟩
      · show [VW cs f, .int (f + (i : Nat)), D.int (f + (j : Int) + 1)] = _
        rw [show f + (j : Int) + 1 = f + ((j + 1 : Nat) : Int) by lia]
      · show (f + (cs.length : Int) - (f + (j : Int) + 1)).toNat < (f + (cs.length : Int) - (f + (j : Int))).toNat
        lia
theorem isB_eq (c : Nat) : (((32 : Int) == (c : Int) || (9 : Int) == (c : Int)) != false) = isB c := by
  unfold isB
  rw [Bool.bne_false, Bool.eq_iff_iff]
  simp only [Bool.or_eq_true, beq_iff_eq]
  lia
theorem vc_blanks_end (m1 : AllSp GM 1 sp_end) (m2 : AllSp GM 2 sp_code_at) {ds} (h : sp_at be ds μ k) : vcSs (Γ0 G GM) ms_blanks_end (ds ++ List.replicate 1 .undef) μ (retK k) := by
  obtain ⟨cs, f, i, rfl, hs, hi, hk⟩ := h
  refine ⟨fun l m => ∃ j : Nat, l = [VW cs f, .int (f + (i : Nat)), .int (f + (j : Nat))] ∧ m = μ ∧ j ≤ cs.length ∧ be cs j = be cs i, fun l _ => (f + cs.length - iAt l 2).toNat, ⟨i, rfl, rfl, hi, rfl⟩, ?_⟩
  rintro l m ⟨j, rfl, rfl, hj, hl⟩
  refine And.intro ⟨rfl, rfl⟩ (m1.e hs ?_)
  refine And.intro (fun h => ?_) (fun h => ?_)
  · have hj0 : j = cs.length := by have := of_decide_eq_false h; lia
    refine And.intro (fun h => by cases h) (fun _ => ?_)
    show k (.int (f + (j : Nat))) m
    rw [← hl, be_stop cs hj (.inl hj0)] at hk; exact hk
  · have hj0 : j < cs.length := by have := of_decide_eq_true h; lia
    refine And.intro ⟨rfl, rfl⟩ (m2.c hs j rfl hj0 ?_)
    refine And.intro (fun h => ?_) (fun h => ?_)
    · have hc : isB (cAt cs j) = false := (isB_eq _).symm.trans h
      refine And.intro (fun h => by cases h) (fun _ => ?_)
      show k (.int (f + (j : Nat))) m
      rw [← hl, be_stop cs hj (.inr hc)] at hk; exact hk
    · have hc : isB (cAt cs j) = true := (isB_eq _).symm.trans h
      refine And.intro (fun _ => ?_) (fun h => by cases h)
      refine ⟨⟨j + 1, ?_, rfl, hj0, by rw [← hl, be_step cs hj0 hc]⟩, ?_⟩
      · show [VW cs f, .int (f + (i : Nat)), D.int (f + (j : Int) + 1)] = _
        rw [show f + (j : Int) + 1 = f + ((j + 1 : Nat) : Int) by lia]
      · show (f + (cs.length : Int) - (f + (j : Int) + 1)).toNat < (f + (cs.length : Int) - (f + (j : Int))).toNat
        lia
theorem vc_blanks_begin (m0 : AllSp GM 0 sp_begin) (m2 : AllSp GM 2 sp_code_at) {ds} (h : sp_at bb ds μ k) : vcSs (Γ0 G GM) ms_blanks_begin (ds ++ List.replicate 1 .undef) μ (retK k) := by
  obtain ⟨cs, f, i, rfl, hs, hi, hk⟩ := h
  refine ⟨fun l m => ∃ j : Nat, l = [VW cs f, .int (f + (i : Nat)), .int (f + (j : Nat))] ∧ m = μ ∧ j ≤ i ∧ bb cs j = bb cs i, fun l _ => (iAt l 2 - f).toNat, ⟨i, rfl, rfl, Nat.le_refl _, rfl⟩, ?_⟩
  rintro l m ⟨j, rfl, rfl, hj, hl⟩
  refine And.intro ⟨rfl, rfl⟩ (m0.b hs ?_)
  refine And.intro (fun h => ?_) (fun h => ?_)
  · have hj0 : j = 0 := by have := of_decide_eq_false h; lia
    subst hj0
    refine And.intro (fun h => by cases h) (fun _ => ?_)
    show k (.int (f + ((0 : Nat) : Int))) m
    rw [← hl] at hk; exact hk
  · have hj0 : 0 < j := by have := of_decide_eq_true h; lia
    refine And.intro ⟨rfl, rfl⟩ (m2.c hs (j - 1) (by lia) (by lia) ?_)
    refine And.intro (fun h => ?_) (fun h => ?_)
    · have hc : isB (cAt cs (j - 1)) = false := (isB_eq _).symm.trans h
      refine And.intro (fun h => by cases h) (fun _ => ?_)
      show k (.int (f + (j : Nat))) m
      have e : bb cs j = j := by
        rw [show j = (j - 1) + 1 by lia, bb, if_neg (by rw [hc]; exact Bool.false_ne_true)]
      rw [← hl, e] at hk; exact hk
    · have hc : isB (cAt cs (j - 1)) = true := (isB_eq _).symm.trans h
      refine And.intro (fun _ => ?_) (fun h => by cases h)
      have e : bb cs j = bb cs (j - 1) := by
        conv => lhs; rw [show j = (j - 1) + 1 by lia, bb, if_pos hc]
      refine ⟨⟨j - 1, ?_, rfl, by lia, by rw [← hl, e]⟩, ?_⟩
      · show [VW cs f, .int (f + (i : Nat)), D.int (f + (j : Int) - 1)] = _
        rw [show f + (j : Int) - 1 = f + ((j - 1 : Nat) : Int) by lia]
      · show (f + (j : Int) - 1 - f).toNat < (f + (j : Int) - f).toNat
        lia
theorem vc_next_start (m1 : AllSp GM 1 sp_end) (c1 : AllSp G 1 (sp_at le)) {ds} (h : sp_next_start ds μ k) : vcSs (Γ0 G GM) ms_next_start (ds ++ List.replicate 1 .undef) μ (retK k) := by
  obtain ⟨cs, f, i, rfl, hs, hi, hk⟩ := h
  refine c1.a hs i rfl hi ?_
  refine And.intro ⟨rfl, rfl⟩ (m1.e hs (And.intro (fun h => ?_) (fun h => ?_)))
  · have hlt : le cs i < cs.length := by have := of_decide_eq_true h; lia
    show k (.int (f + (le cs i : Nat) + 1)) μ
    unfold ns at hk
    rw [if_pos hlt] at hk
    rw [show f + (le cs i : Int) + 1 = f + ((le cs i + 1 : Nat) : Int) by lia]; exact hk
  · have hlt : ¬ le cs i < cs.length := by have := of_decide_eq_false h; lia
    unfold ns at hk
    rw [if_neg hlt] at hk
    exact hk
theorem vc_is_line_begin (m0 : AllSp GM 0 sp_begin) (m2 : AllSp GM 2 sp_code_at) {ds} (h : sp_atB ilb ds μ k) : vcSs (Γ0 G GM) ms_is_line_begin (ds ++ List.replicate 0 .undef) μ (retK k) := by
  obtain ⟨cs, f, i, rfl, hs, hi, hk⟩ := h
  unfold ilb at hk
  refine And.intro ⟨rfl, rfl⟩ (m0.b hs ?_)
  refine And.intro (fun h => ?_) (fun h => ?_)
  · have : i = 0 := by have := eq_of_beq h; lia
    rw [decide_eq_true this, Bool.true_or] at hk; exact hk
  · have h0 : i ≠ 0 := by
      have : ((f + (i : Int)) == f) = false := h
      have := by simpa using this
      lia
    rw [decide_eq_false h0, Bool.false_or] at hk
    refine And.intro ⟨rfl, rfl⟩ (m2.c hs (i - 1) (by lia) (by lia) ?_)
    have e : ((cAt cs (i - 1) : Int) == 10) = decide (cAt cs (i - 1) = 10) := by rw [Bool.eq_iff_iff]; simp; lia
    refine And.intro (fun h => ?_) (fun h => ?_)
    · rw [← e, show ((cAt cs (i - 1) : Int) == 10) = true from h] at hk; exact hk
    · rw [← e, show ((cAt cs (i - 1) : Int) == 10) = false from h] at hk; exact hk
theorem vc_is_line_end (m1 : AllSp GM 1 sp_end) (m2 : AllSp GM 2 sp_code_at) {ds} (h : sp_atB ile ds μ k) : vcSs (Γ0 G GM) ms_is_line_end (ds ++ List.replicate 0 .undef) μ (retK k) := by
  obtain ⟨cs, f, i, rfl, hs, hi, hk⟩ := h
  unfold ile at hk
  refine And.intro ⟨rfl, rfl⟩ (m1.e hs ?_)
  refine And.intro (fun h => ?_) (fun h => ?_)
  · have : i = cs.length := by have := eq_of_beq h; lia
    rw [decide_eq_true this, Bool.true_or] at hk; exact hk
  · have h0 : i ≠ cs.length := by
      have : ((f + (i : Int)) == (f + (cs.length : Int))) = false := h
      have := by simpa using this
      lia
    rw [decide_eq_false h0, Bool.false_or] at hk
    refine And.intro ⟨rfl, rfl⟩ (m2.c hs i rfl (by lia) ?_)
    have e : ((cAt cs i : Int) == 10) = decide (cAt cs i = 10) := by rw [Bool.eq_iff_iff]; simp; lia
    refine And.intro (fun h => ?_) (fun h => ?_)
    · rw [← e, show ((cAt cs i : Int) == 10) = true from h] at hk; exact hk
    · rw [← e, show ((cAt cs i : Int) == 10) = false from h] at hk; exact hk
theorem vc_is_blank_line (c0 : AllSp G 0 (sp_at ls)) (c3 : AllSp G 3 (sp_at be)) (c6 : AllSp G 6 (sp_atB ile)) {ds} (h : sp_atB blk ds μ k) : vcSs (Γ0 G GM) ms_is_blank_line (ds ++ List.replicate 0 .undef) μ (retK k) := by
  obtain ⟨cs, f, i, rfl, hs, hi, hk⟩ := h
  have h1 := ls_le cs i
  refine c0.a hs i rfl hi (c3.a hs (ls cs i) rfl (by lia) (c6.t hs (be cs (ls cs i)) rfl (be_bd cs (by lia)).2 hk))
theorem ns_bd (cs : List Nat) {i j : Nat} (hi : i ≤ cs.length) (h : ns cs i = some j) : i < j ∧ j ≤ cs.length := by
  unfold ns at h
  have := le_bd cs hi
  split at h
  · cases h; lia
  · cases h
theorem vc_line_behind (m1 : AllSp GM 1 sp_end) (c2 : AllSp G 2 sp_next_start) {ds} (h : sp_at lbh ds μ k) : vcSs (Γ0 G GM) ms_line_behind (ds ++ List.replicate 1 .undef) μ (retK k) := by
  obtain ⟨cs, f, i, rfl, hs, hi, hk⟩ := h
  have hm := hs.lo
  refine c2.n hs i rfl hi ?_
  unfold lbh at hk
  cases q : ns cs i with
  | none =>
    rw [q] at hk
    exact And.intro (fun _ => And.intro ⟨rfl, rfl⟩ (m1.e hs hk)) fun h => by cases h
  | some j =>
    rw [q] at hk
    refine And.intro (fun h => ?_) fun _ => hk
    have : f + (j : Int) < 0 := of_decide_eq_true h
    lia
theorem behF_stop (cs : List Nat) : ∀ (k : Nat) (o : Option Nat), (∀ i, o = some i → i ≤ cs.length ∧ cs.length < i + k) → ∀ i, behF cs k o = some i → i ≤ cs.length ∧ blk cs i = false
  | 0, o, h, i, e => by
    have := h i e; lia
  | k + 1, none, h, i, e => by cases e
  | k + 1, some j, h, i, e => by
    rw [behF_s] at e
    have hj := h j rfl
    split at e
    · exact behF_stop cs k (ns cs j) (fun m hm => by have := ns_bd cs hj.1 hm; lia) i e
    · rename_i hb
      cases e
      exact ⟨hj.1, by simpa using hb⟩
theorem behF_more (cs : List Nat) : ∀ (k k' : Nat) (o : Option Nat), (∀ i, o = some i → i ≤ cs.length ∧ cs.length < i + k ∧ cs.length < i + k') → behF cs k o = behF cs k' o
  | 0, 0, o, _ => rfl
  | 0, k' + 1, none, _ => rfl
  | k + 1, 0, none, _ => rfl
  | k + 1, k' + 1, none, _ => rfl
  | 0, k' + 1, some i, h => by have := h i rfl; lia
  | k + 1, 0, some i, h => by have := h i rfl; lia
  | k + 1, k' + 1, some i, h => by
    have hi := h i rfl
    rw [behF_s, behF_s]
    split
    · exact behF_more cs k k' (ns cs i) fun m hm => by have := ns_bd cs hi.1 hm; lia
    · rfl
theorem vc_behind_blanks (m1 : AllSp GM 1 sp_end) (c2 : AllSp G 2 sp_next_start) (c7 : AllSp G 7 (sp_atB blk)) {ds} (h : sp_at beh ds μ k) : vcSs (Γ0 G GM) ms_behind_blanks (ds ++ List.replicate 1 .undef) μ (retK k) := by
  obtain ⟨cs, f, i, rfl, hs, hi, hk⟩ := h
  have hm := hs.lo
  have hmm : ∀ m, ns cs i = some m → m ≤ cs.length := fun m q => (ns_bd cs hi q).2
  refine c2.n hs i rfl hi ?_
  refine ⟨fun l m => ∃ o : Option Nat, l = [VW cs f, .int (f + (i : Nat)), .int (posO f o)] ∧ m = μ ∧ (∀ j, o = some j → j ≤ cs.length) ∧ behF cs (cs.length + 1) o = behF cs (cs.length + 1) (ns cs i),
    fun l _ => (f + cs.length + 1 - iAt l 2).toNat + (if iAt l 2 < 0 then 0 else 9000), ⟨ns cs i, rfl, rfl, hmm, rfl⟩, ?_⟩
  rintro l m ⟨o, rfl, rfl, ho, hl⟩
  have fin : ∀ o' : Option Nat, o' = behF cs (cs.length + 1) (ns cs i) → vcSs (Γ0 G GM) [.ret (.ite (.cmp .lt (.var 2) (.int 0)) (.mcall 1 (.var 0) []) (.var 2))] [VW cs f, .int (f + (i : Nat)), .int (posO f o')] m (retK k) := by
    intro o' e
    unfold beh at hk
    rw [← e] at hk
    cases o' with
    | none => exact And.intro (fun _ => And.intro ⟨rfl, rfl⟩ (m1.e hs hk)) fun h => by cases h
    | some j =>
      refine And.intro (fun h => ?_) fun _ => hk
      have : f + (j : Int) < 0 := of_decide_eq_true h
      lia
  cases o with
  | none =>
    refine And.intro (fun _ => ?_) (fun h => by cases h)
    exact And.intro (fun h => by cases h) (fun _ => fin none (by rw [← hl]; rfl))
  | some j =>
    have hj := ho j rfl
    refine And.intro (fun h => ?_) (fun _ => ?_)
    · have : ¬ (0 ≤ f + (j : Int)) := of_decide_eq_false h
      lia
    · refine c7.t hs j rfl hj ?_
      refine And.intro (fun h => ?_) (fun h => ?_)
      · refine And.intro (fun h => by cases h) (fun _ => fin (some j) ?_)
        rw [← hl, behF, if_neg (by rw [h]; exact Bool.false_ne_true)]
      · refine And.intro (fun _ => ?_) (fun h => by cases h)
        refine c2.n hs j rfl hj ?_
        refine ⟨⟨ns cs j, rfl, rfl, fun m hm => (ns_bd cs hj hm).2, ?_⟩, ?_⟩
        · rw [← hl]
          conv => rhs; rw [behF, if_pos h]
          exact behF_more cs _ _ _ fun m hm => by have := ns_bd cs hj hm; lia
        · have hn := hs.n
          show (f + (cs.length : Int) + 1 - posO f (ns cs j)).toNat + (if posO f (ns cs j) < 0 then 0 else 9000) < (f + (cs.length : Int) + 1 - (f + (j : Int))).toNat + (if f + (j : Int) < 0 then 0 else 9000)
          rw [if_neg (show ¬ f + (j : Int) < 0 by lia)]
          cases q : ns cs j with
          | none =>
            show (f + (cs.length : Int) + 1 - (-1)).toNat + (if (-1 : Int) < 0 then 0 else 9000) < _
            have := hs.hi
            rw [if_pos (by decide)]; lia
          | some m =>
            have := ns_bd cs hj q
            show (f + (cs.length : Int) + 1 - (f + (m : Int))).toNat + (if f + (m : Int) < 0 then 0 else 9000) < _
            rw [if_neg (by lia)]; lia
end
noncomputable def SY (x : Str) (m fl : D) : D := .inst cSyntax [(tS "kind", .str x), (tS "match", m), (tS "flags", fl)]
noncomputable def TB (r : Addr) : D := .inst cSyntaxTable [(tS "parent", .none), (tS "rows", .mref r)]
noncomputable def al (c : Nat) : Bool := [97, 40, 41, 32, 9, 10, 98].contains c
noncomputable def kd (c : Nat) : List Nat := if c = 40 then [40] else if c = 41 then [41] else if c = 97 ∨ c = 98 then [119] else [32]
noncomputable def TabOk (kvs : List (Int × D)) : Prop := ∀ c, al c = true → ∃ m fl, valD kvs ((c : Nat) : Int) = some (SY (S8 (kd c)) m fl)
noncomputable def TabM (μ : Mem) (r : Addr) : Prop := ∃ kvs, lookM μ r = some (.dict kvs) ∧ TabOk kvs
structure Tx (cs : List Nat) (f : Int) : Prop extends Sm cs f where
  al : ∀ i, i < cs.length → al (cAt cs i) = true
noncomputable def ws (cs : List Nat) (a b : Nat) : Bool := !(ilb cs a || ile cs b) && (decide (cAt cs b ≠ 41) && decide (cAt cs (a - 1) ≠ 40))
noncomputable def eD3 (f : Int) (a b : Nat) (ins : List D) : D := .tup [.int (f + (a : Nat)), .int (f + (b : Nat)), .list ins]
noncomputable def sp1 (b : Bool) : List D := if b then [.int 32] else []
noncomputable def sp_pair (g h : List Nat → Nat → Nat) (ds : List D) (μ : Mem) (k : KE) : Prop := ∃ cs f i, ds = [VW cs f, .int (f + (i : Nat))] ∧ Sm cs f ∧ i ≤ cs.length ∧ k (.tup [.int (f + (g cs i : Nat)), .int (f + (h cs i : Nat))]) μ
noncomputable def sp_horizontal (ds : List D) (μ : Mem) (k : KE) : Prop := ∃ cs f i t, ds = [VW cs f, .int (f + (i : Nat)), .bool t] ∧ Sm cs f ∧ i ≤ cs.length ∧ k (eD3 f (bb cs i) (if t then i else be cs i) []) μ
noncomputable def sp_just (ds : List D) (μ : Mem) (k : KE) : Prop := ∃ cs f i q, ds = [VW cs f, .int (f + (i : Nat)), .int ((q : Nat) : Int)] ∧ Sm cs f ∧ i ≤ cs.length ∧ q ≤ 1000 ∧ k (eD3 f (bb cs i) (be cs i) (List.replicate q (.int 32))) μ
noncomputable def sp_kind_of (ds : List D) (μ : Mem) (k : KE) : Prop := ∃ r c, ds = [TB r, .int ((c : Nat) : Int)] ∧ al c = true ∧ TabM μ r ∧ k (.str (S8 (kd c))) μ
noncomputable def sp_wants (ds : List D) (μ : Mem) (k : KE) : Prop := ∃ cs f r a b, ds = [VW cs f, TB r, .int (f + (a : Nat)), .int (f + (b : Nat))] ∧ Tx cs f ∧ TabM μ r ∧ a ≤ cs.length ∧ b ≤ cs.length ∧ k (.bool (ws cs a b)) μ
noncomputable def sp_fixup (ds : List D) (μ : Mem) (k : KE) : Prop := ∃ cs f r i, ds = [VW cs f, TB r, .int (f + (i : Nat))] ∧ Tx cs f ∧ TabM μ r ∧ i ≤ cs.length ∧ k (eD3 f (bb cs i) (be cs i) (sp1 (ws cs (bb cs i) (be cs i)))) μ
noncomputable def joinE (f : Int) (cs : List Nat) (i : Nat) : D := if ls cs i = 0 then eD3 f 0 0 [] else eD3 f (bb cs (ls cs i - 1)) (be cs (ls cs i)) (sp1 (ws cs (bb cs (ls cs i - 1)) (be cs (ls cs i))))
noncomputable def sp_join (ds : List D) (μ : Mem) (k : KE) : Prop := ∃ cs f r i, ds = [VW cs f, TB r, .int (f + (i : Nat))] ∧ Tx cs f ∧ TabM μ r ∧ i ≤ cs.length ∧ k (joinE f cs i) μ
noncomputable def bleL (cs : List Nat) (i : Nat) : List (Nat × Nat) :=
  if blk cs i = false then (if lbh cs i < beh cs i then [(lbh cs i, beh cs i)] else [])
  else if br cs i = ls cs i ∧ beh cs i = lbh cs i then [(ls cs i, lbh cs i)]
  else if beh cs i = cs.length ∧ le cs i < lbh cs i then [(br cs i, beh cs i)]
  else (if lbh cs i < beh cs i then [(lbh cs i, beh cs i)] else []) ++ (if br cs i < ls cs i then [(br cs i, ls cs i)] else [])
noncomputable def edL (f : Int) (l : List (Nat × Nat)) : List D := l.map fun p => eD3 f p.1 p.2 []
noncomputable def sp_ble (ds : List D) (μ : Mem) (k : KE) : Prop := ∃ cs f i, ds = [VW cs f, .int (f + (i : Nat))] ∧ Sm cs f ∧ i ≤ cs.length ∧ k (.list (edL f (bleL cs i))) μ
section
variable {G GM : Nat → List D → Mem → KE → Prop} {cs : List Nat} {f : Int} {i : Nat} {μ : Mem} {k : KE}
theorem AllSp.ko (h : AllSp GM 3 sp_kind_of) {r : Addr} {c : Nat} (ha : al c = true) (ht : TabM μ r) (hk : k (.str (S8 (kd c))) μ) : GM 3 [TB r, .int ((c : Nat) : Int)] μ k := h _ _ _ ⟨r, c, rfl, ha, ht, hk⟩
theorem brF_more (cs : List Nat) : ∀ (k k' i : Nat), i < k → i < k' → brF cs k i = brF cs k' i
  | 0, _, i, h, _ => by lia
  | _ + 1, 0, i, _, h => by lia
  | k + 1, k' + 1, i, h, h' => by
    rw [brF_s, brF_s]
    by_cases q : (decide (0 < i) && blk cs (i - 1)) = true
    · rw [if_pos q, if_pos q]
      rw [Bool.and_eq_true] at q
      have h0 := of_decide_eq_true q.1
      have := ls_le cs (i - 1)
      exact brF_more cs k k' _ (by lia) (by lia)
    · rw [if_neg q, if_neg q]
theorem vc_blank_run (m0 : AllSp GM 0 sp_begin) (c0 : AllSp G 0 (sp_at ls)) (c7 : AllSp G 7 (sp_atB blk)) (c17 : AllSp G 17 (sp_at beh)) {ds} (h : sp_pair br beh ds μ k) : vcSs (Γ0 G GM) ms_blank_run (ds ++ List.replicate 1 .undef) μ (retK k) := by
  obtain ⟨cs, f, i, rfl, hs, hi, hk⟩ := h
  refine c0.a hs i rfl hi ?_
  refine ⟨fun l m => ∃ j : Nat, l = [VW cs f, .int (f + (i : Nat)), .int (f + (j : Nat))] ∧ m = μ ∧ j ≤ cs.length ∧ brF cs (cs.length + 1) j = br cs i, fun l _ => (iAt l 2 - f).toNat, ⟨ls cs i, rfl, rfl, by have := ls_le cs i; lia, rfl⟩, ?_⟩
  rintro l m ⟨j, rfl, rfl, hj, hl⟩
  have fin : br cs i = j → vcSs (Γ0 G GM) [.ret (.tup [.var 2, .call 17 [.var 0, .var 1]])] [VW cs f, .int (f + (i : Nat)), .int (f + (j : Nat))] m (retK k) := by
    intro e
    refine c17.a hs i rfl hi ?_
    rw [e] at hk; exact hk
  refine And.intro ⟨rfl, rfl⟩ (m0.b hs ?_)
  refine And.intro (fun h => ?_) (fun h => ?_)
  · have hj0 : j = 0 := by have := of_decide_eq_false h; lia
    refine And.intro (fun h => by cases h) (fun _ => fin ?_)
    rw [← hl, brF, hj0]; rfl
  · have hj0 : 0 < j := by have := of_decide_eq_true h; (clear hl hj hi; lia)
    refine c7.t hs (j - 1) (by lia) (by lia) ?_
    have hd : decide (0 < j) = true := decide_eq_true hj0
    refine And.intro (fun h => ?_) (fun h => ?_)
    · refine And.intro (fun h => by cases h) (fun _ => fin ?_)
      rw [← hl, brF, hd, h]; rfl
    · refine And.intro (fun _ => ?_) (fun h => by cases h)
      have hle := ls_le cs (j - 1)
      refine c0.a hs (j - 1) (by lia) (by lia) ?_
      refine ⟨⟨ls cs (j - 1), rfl, rfl, by lia, ?_⟩, ?_⟩
      · rw [← hl]
        conv => rhs; rw [brF, hd, h]
        exact brF_more cs _ _ _ (by lia) (by lia)
      · show (f + (ls cs (j - 1) : Int) - f).toNat < (f + (j : Int) - f).toNat
        lia
theorem vc_horizontal (c3 : AllSp G 3 (sp_at be)) (c4 : AllSp G 4 (sp_at bb)) {ds} (h : sp_horizontal ds μ k) : vcSs (Γ0 G GM) ms_horizontal_edit (ds ++ List.replicate 0 .undef) μ (retK k) := by
  obtain ⟨cs, f, i, t, rfl, hs, hi, hk⟩ := h
  refine c4.a hs i rfl hi ?_
  refine And.intro (fun h => ?_) (fun h => ?_)
  · subst h
    exact hk
  · subst h
    exact c3.a hs i rfl hi (hk)
theorem vc_just (c3 : AllSp G 3 (sp_at be)) (c4 : AllSp G 4 (sp_at bb)) {ds} (h : sp_just ds μ k) : vcSs (Γ0 G GM) ms_just_edit (ds ++ List.replicate 0 .undef) μ (retK k) := by
  obtain ⟨cs, f, i, q, rfl, hs, hi, hq, hk⟩ := h
  refine c4.a hs i rfl hi (c3.a hs i rfl hi ?_)
  exact And.intro (show (0 : Int) ≤ (q : Int) by (clear hq hi; lia)) (And.intro (show (q : Int) ≤ 1000000 by lia) hk)
theorem kd_closes {c : Nat} (h : al c = true) : (Txt.contains (S8 [41]) (S8 (kd c)) != true) = decide (c ≠ 41) := by
  have : c = 97 ∨ c = 40 ∨ c = 41 ∨ c = 32 ∨ c = 9 ∨ c = 10 ∨ c = 98 := by
    unfold al at h; simpa using h
  rcases this with rfl | rfl | rfl | rfl | rfl | rfl | rfl <;> (unfold kd; simp [contains_one])
theorem kd_opens {c : Nat} (h : al c = true) : (Txt.contains (S8 [40, 39]) (S8 (kd c)) != true) = decide (c ≠ 40) := by
  have : c = 97 ∨ c = 40 ∨ c = 41 ∨ c = 32 ∨ c = 9 ∨ c = 10 ∨ c = 98 := by
    unfold al at h; simpa using h
  rcases this with rfl | rfl | rfl | rfl | rfl | rfl | rfl <;> (unfold kd; simp [contains_one])
theorem vc_wants (m2 : AllSp GM 2 sp_code_at) (m3 : AllSp GM 3 sp_kind_of) (c5 : AllSp G 5 (sp_atB ilb)) (c6 : AllSp G 6 (sp_atB ile)) {ds} (h : sp_wants ds μ k) : vcSs (Γ0 G GM) ms_wants_space (ds ++ List.replicate 0 .undef) μ (retK k) := by
  obtain ⟨cs, f, r, a, b, rfl, ht, hT, ha, hb, hk⟩ := h
  have hs := ht.toSm
  unfold ws at hk
  refine c5.t hs a rfl ha ?_
  refine And.intro (fun h => ?_) (fun h => ?_)
  · refine And.intro (fun _ => ?_) (fun h => by cases h)
    rw [h] at hk; exact hk
  · refine c6.t hs b rfl hb ?_
    rw [h] at hk
    refine And.intro (fun h2 => ?_) (fun h2 => ?_)
    · refine And.intro (fun _ => ?_) (fun h => by cases h)
      rw [h2] at hk; exact hk
    · refine And.intro (fun h => by cases h) (fun _ => ?_)
      rw [h2] at hk
      have hk : k (.bool (decide (cAt cs b ≠ 41) && decide (cAt cs (a - 1) ≠ 40))) μ := hk
      have hbl : b < cs.length := by
        unfold ile at h2
        rw [Bool.or_eq_false_iff] at h2
        have := of_decide_eq_false h2.1; lia
      have ha0 : 0 < a := by
        unfold ilb at h
        rw [Bool.or_eq_false_iff] at h
        have := of_decide_eq_false h.1; lia
      refine And.intro ⟨rfl, rfl⟩ (And.intro ⟨rfl, rfl⟩ (m2.c hs b rfl hbl (m3.ko (ht.al b hbl) hT ?_)))
      have e1 := kd_closes (ht.al b hbl)
      have e2 := kd_opens (ht.al (a - 1) (by lia))
      refine And.intro (fun h3 => ?_) (fun h3 => ?_)
      · have h3 : (Txt.contains (S8 [41]) (S8 (kd (cAt cs b))) != true) = false := h3
        rw [← e1, h3] at hk; exact hk
      · have h3 : (Txt.contains (S8 [41]) (S8 (kd (cAt cs b))) != true) = true := h3
        rw [← e1, h3] at hk
        refine And.intro ⟨rfl, rfl⟩ (And.intro ⟨rfl, rfl⟩ (m2.c hs (a - 1) (by lia) (by lia) (m3.ko (ht.al (a - 1) (by lia)) hT ?_)))
        refine And.intro (fun h4 => ?_) (fun h4 => ?_)
        · have h4 : (Txt.contains (S8 [40, 39]) (S8 (kd (cAt cs (a - 1)))) != true) = false := h4
          rw [← e2, h4] at hk; exact hk
        · have h4 : (Txt.contains (S8 [40, 39]) (S8 (kd (cAt cs (a - 1)))) != true) = true := h4
          rw [← e2, h4] at hk; exact hk
theorem vc_fixup (c3 : AllSp G 3 (sp_at be)) (c4 : AllSp G 4 (sp_at bb)) (c13 : AllSp G 13 sp_wants) {ds} (h : sp_fixup ds μ k) : vcSs (Γ0 G GM) ms_fixup_edit (ds ++ List.replicate 2 .undef) μ (retK k) := by
  obtain ⟨cs, f, r, i, rfl, ht, hT, hi, hk⟩ := h
  have hs := ht.toSm
  have h1 := bb_le cs i
  have h2 := be_bd cs hi
  refine c4.a hs i rfl hi (c3.a hs i rfl hi ?_)
  refine c13 _ _ _ ⟨cs, f, r, bb cs i, be cs i, rfl, ht, hT, by lia, h2.2, ?_⟩
  refine And.intro (fun h => ?_) (fun h => ?_)
  · rw [h] at hk; exact hk
  · rw [h] at hk; exact hk
theorem vc_join (m0 : AllSp GM 0 sp_begin) (c0 : AllSp G 0 (sp_at ls)) (c3 : AllSp G 3 (sp_at be)) (c4 : AllSp G 4 (sp_at bb)) (c13 : AllSp G 13 sp_wants) {ds} (h : sp_join ds μ k) : vcSs (Γ0 G GM) ms_join_edit (ds ++ List.replicate 4 .undef) μ (retK k) := by
  obtain ⟨cs, f, r, i, rfl, ht, hT, hi, hk⟩ := h
  have hs := ht.toSm
  have h0 := ls_le cs i
  unfold joinE at hk
  refine c0.a hs i rfl hi ?_
  refine And.intro ⟨rfl, rfl⟩ (m0.b hs ?_)
  refine And.intro (fun h => ?_) (fun h => ?_)
  · have hz : ls cs i = 0 := by have := of_decide_eq_true h; lia
    rw [if_pos hz] at hk
    refine c0.a hs i rfl hi ?_
    rw [hz]
    exact hk
  · have hz : ls cs i ≠ 0 := by have := of_decide_eq_false h; lia
    rw [if_neg hz] at hk
    have hb := bb_le cs (ls cs i - 1)
    have he := be_bd cs (show ls cs i ≤ cs.length by lia)
    refine c4.a hs (ls cs i - 1) (by lia) (by lia) (c3.a hs (ls cs i) (by lia) (by lia) ?_)
    refine c13 _ _ _ ⟨cs, f, r, bb cs (ls cs i - 1), be cs (ls cs i), rfl, ht, hT, by lia, he.2, ?_⟩
    refine And.intro (fun h => ?_) (fun h => ?_)
    · rw [h] at hk; exact hk
    · rw [h] at hk; exact hk
end
noncomputable def rngD (a : Int) : Nat → List D
  | 0 => []
  | n + 1 => .int a :: rngD (a + 1) n
theorem rng_map (n : Nat) : ∀ a : Int, ((List.range n).map fun i => D.int (a + (i : Nat))) = rngD a n := by
  induction n with
  | zero => intro a; rfl
  | succ n ih =>
    intro a
    rw [List.range_succ_eq_map, List.map_cons, List.map_map, rngD, ← ih (a + 1)]
    congr 1
    · show D.int (a + ((0 : Nat) : Int)) = _; rw [show a + ((0 : Nat) : Int) = a by lia]
    · apply List.map_congr_left
      intro i _
      show D.int (a + ((i + 1 : Nat) : Int)) = _
      rw [show a + ((i + 1 : Nat) : Int) = a + 1 + (i : Nat) by lia]
theorem rangeOf2 (a b : Int) : rangeOf [.int a, .int b] = some (rngD a (b - a).toNat) := by
  show some _ = _; rw [rng_map]
theorem rangeOf1 (b : Int) : rangeOf [.int b] = some (rngD 0 b.toNat) := by
  show some ((List.range b.toNat).map fun i => D.int (i : Nat)) = _
  rw [← rng_map]
  congr 1
  apply List.map_congr_left
  intro i _
  show D.int (i : Nat) = D.int (0 + (i : Nat))
  rw [Int.zero_add]
theorem setM_fresh {μ : Mem} {r : Addr} {x y : MO} (h : lookM μ r = none) : setM ((r, x) :: μ) r y = (r, y) :: μ := by
  have aux : ∀ μ : Mem, lookM μ r = none → setM μ r y = μ := by
    intro μ
    induction μ with
    | nil => intro _; rfl
    | cons p μ ih =>
      intro h
      obtain ⟨b, o⟩ := p
      rw [look_c] at h
      by_cases q : b = r
      · rw [if_pos q] at h; cases h
      · rw [if_neg q] at h
        have := ih h
        unfold setM at this ⊢
        rw [List.map_cons, if_neg q, this]
  have := aux μ h
  unfold setM at this ⊢
  rw [List.map_cons, if_pos rfl, this]
theorem look_cons (μ : Mem) (r : Addr) (x : MO) : lookM ((r, x) :: μ) r = some x := by rw [look_c, if_pos rfl]
theorem look_ne {μ : Mem} {r b : Addr} {x : MO} (h : r ≠ b) : lookM ((r, x) :: μ) b = lookM μ b := by
  rw [look_c, if_neg h]
theorem look_setM {μ : Mem} {r : Addr} {y : MO} : ∀ {x : MO}, lookM μ r = some x → lookM (setM μ r y) r = some y := by
  induction μ with
  | nil => intro x h; cases h
  | cons p μ ih =>
    intro x h
    obtain ⟨b, o⟩ := p
    rw [look_c] at h
    by_cases q : b = r
    · show lookM ((if b = r then (r, y) else (b, o)) :: setM μ r y) r = _
      rw [if_pos q]; exact look_cons _ _ _
    · rw [if_neg q] at h
      show lookM ((if b = r then (r, y) else (b, o)) :: setM μ r y) r = _
      rw [if_neg q, look_ne q]; exact ih h
theorem look_setM_ne {μ : Mem} {r b : Addr} {y : MO} (hb : r ≠ b) : lookM (setM μ r y) b = lookM μ b := by
  induction μ with
  | nil => rfl
  | cons p μ ih =>
    obtain ⟨c, o⟩ := p
    show lookM ((if c = r then (r, y) else (c, o)) :: setM μ r y) b = _
    by_cases q : c = r
    · rw [if_pos q, look_ne hb, ih, look_ne (by rw [q]; exact hb)]
    · rw [if_neg q]
      by_cases q2 : c = b
      · subst q2; rw [look_cons, look_cons]
      · rw [look_ne q2, look_ne q2, ih]
theorem pick_from {α : Type} (l : List α) {i : Nat} (h : i ≤ l.length) : pick l (some (i : Int)) none = l.drop i := by
  have e : kms_lo (some (i : Int)) l.length = i := by show (if (i : Int) < 0 then l.length - (-(i : Int)).toNat else min (i : Int).toNat l.length) = i; rw [if_neg (by (clear h; lia))]; lia
  unfold pick
  rw [e]
  show (l.drop i).take (l.length - i) = _
  rw [← List.length_drop, List.take_length]
theorem pick_to {α : Type} (l : List α) (j : Nat) : pick l none (some (j : Int)) = l.take j := by
  have e : kms_hi (some (j : Int)) l.length = min j l.length := by show (if (j : Int) < 0 then l.length - (-(j : Int)).toNat else min (j : Int).toNat l.length) = _; rw [if_neg (by lia)]; lia
  unfold pick
  rw [e]
  show (l.drop 0).take (min j l.length - 0) = _
  rw [Nat.sub_zero, List.drop_zero]
  by_cases q : j ≤ l.length
  · rw [show min j l.length = j by (clear e; lia)]
  · rw [show min j l.length = l.length by (clear e; lia), List.take_length, List.take_of_length_le (by (clear e; lia))]
theorem pick_last {α : Type} (l : List α) : pick l none (some (-1)) = l.dropLast := by
  have e : kms_hi (some (-1)) l.length = l.length - 1 := rfl
  unfold pick
  rw [e]
  show (l.drop 0).take (l.length - 1 - 0) = _
  rw [Nat.sub_zero, List.drop_zero, List.dropLast_eq_take]
theorem fmod_nat (a b : Nat) : ((a : Int)).fmod (b : Int) = ((a % b : Nat) : Int) := by
  rw [Int.fmod_eq_emod_of_nonneg _ (by lia)]; rfl
theorem fdiv_nat (a b : Nat) : ((a : Int)).fdiv (b : Int) = ((a / b : Nat) : Int) := by
  rw [Int.fdiv_eq_ediv_of_nonneg _ (by lia)]; rfl
noncomputable def wd (c col w : Nat) : Nat := if c = 9 then w - col % w else 1
noncomputable def colL (w : Nat) (l : List Nat) (col : Nat) : Nat := l.foldl (fun col c => col + wd c col w) col
noncomputable def lnOf (cs : List Nat) (i : Nat) : List Nat := (cs.drop (ls cs i)).take (i - ls cs i)
noncomputable def colAt (cs : List Nat) (i w : Nat) : Nat := colL w (lnOf cs i) 0
noncomputable def sp_width (ds : List D) (μ : Mem) (k : KE) : Prop := ∃ c col w, ds = [.int ((c : Nat) : Int), .int ((col : Nat) : Int), .int ((w : Nat) : Int)] ∧ al c = true ∧ c ≠ 10 ∧ 0 < w ∧ k (.int ((wd c col w : Nat) : Int)) μ
noncomputable def sp_codes (ds : List D) (μ : Mem) (k : KE) : Prop := ∃ col w, ds = [.list [.int 9], .int ((col : Nat) : Int), .int ((w : Nat) : Int)] ∧ 0 < w ∧ k (.int ((col + wd 9 col w : Nat) : Int)) μ
noncomputable def sp_column (ds : List D) (μ : Mem) (k : KE) : Prop := ∃ cs f i w, ds = [VW cs f, .int (f + (i : Nat)), .int ((w : Nat) : Int)] ∧ Tx cs f ∧ i ≤ cs.length ∧ 0 < w ∧ k (.int ((colAt cs i w : Nat) : Int)) μ
noncomputable def unt (cs : List Nat) (i w : Nat) : Nat := w - colAt cs i w % w
noncomputable def sp_untab (ds : List D) (μ : Mem) (k : KE) : Prop := ∃ cs f i w, ds = [VW cs f, .int (f + (i : Nat)), .int ((w : Nat) : Int)] ∧ Tx cs f ∧ i ≤ cs.length ∧ 0 < w ∧ w ≤ 1000 ∧ k (.list (List.replicate (unt cs i w) (.int 32))) μ
noncomputable def bkN (cs : List Nat) (i w : Nat) : Nat := if cAt cs (i - 1) = 9 then unt cs (i - 1) w - 1 else 0
noncomputable def sp_backward (ds : List D) (μ : Mem) (k : KE) : Prop := ∃ cs f i w, ds = [VW cs f, .int (f + (i : Nat)), .int ((w : Nat) : Int)] ∧ Tx cs f ∧ i ≤ cs.length ∧ 0 < i ∧ 0 < w ∧ w ≤ 1000 ∧ k (eD3 f (i - 1) i (List.replicate (bkN cs i w) (.int 32))) μ
noncomputable def teF (cs : List Nat) (a b : Nat) : Nat → Nat → List (Nat × Nat)
  | 0, _ => []
  | k + 1, last => if last ≤ b then (if max a (bb cs last) < last then [(max a (bb cs last), last)] else []) ++ (if last < cs.length then teF cs a b k (le cs (last + 1)) else []) else []
theorem teF_s {cs : List Nat} {a b k last : Nat} : teF cs a b (k + 1) last = if last ≤ b then (if max a (bb cs last) < last then [(max a (bb cs last), last)] else []) ++ (if last < cs.length then teF cs a b k (le cs (last + 1)) else []) else [] := rfl
noncomputable def teL (cs : List Nat) (a b : Nat) : List (Nat × Nat) := (teF cs a b (cs.length + 1) (le cs a)).reverse
noncomputable def sp_trailing (ds : List D) (μ : Mem) (k : KE) : Prop := ∃ cs f a b, ds = [VW cs f, .int (f + (a : Nat)), .int (f + (b : Nat))] ∧ Sm cs f ∧ a ≤ b ∧ b ≤ cs.length ∧ ∀ r xs, lookM μ r = none → k (.list (edL f (teL cs a b))) ((r, .lst xs) :: μ)
noncomputable def skF (cs : List Nat) (c : Nat) : Nat → Nat → Nat
  | 0, i => i
  | k + 1, i => if cAt cs i = c then i else skF cs c k (i + 1)
theorem skF_s {cs : List Nat} {c k i : Nat} : skF cs c (k + 1) i = if cAt cs i = c then i else skF cs c k (i + 1) := rfl
noncomputable def sk (cs : List Nat) (c i : Nat) : Nat := skF cs c (cs.length - i) i
noncomputable def zfF (cs : List Nat) (c : Nat) : Nat → Nat → Option Nat
  | 0, i => some i
  | m + 1, i => if sk cs c i = cs.length then none else zfF cs c m (sk cs c i + 1)
theorem zfF_s {cs : List Nat} {c m i : Nat} : zfF cs c (m + 1) i = if sk cs c i = cs.length then none else zfF cs c m (sk cs c i + 1) := rfl
noncomputable def bkF (cs : List Nat) (c : Nat) : Nat → Option Nat
  | 0 => none
  | i + 1 => if cAt cs i = c then some i else bkF cs c i
noncomputable def zbF (cs : List Nat) (c : Nat) : Nat → Nat → Option Nat
  | 0, i => some i
  | m + 1, i => match bkF cs c i with
    | none => none
    | some j => zbF cs c m j
noncomputable def sp_zap (ds : List D) (μ : Mem) (k : KE) : Prop := ∃ cs f i c m, Sm cs f ∧ i ≤ cs.length ∧
  ((ds = [VW cs f, .int (f + (i : Nat)), .int ((c : Nat) : Int), .int ((m : Nat) : Int)] ∧ k (.int (posO f (zfF cs c m i))) μ) ∨
   (ds = [VW cs f, .int (f + (i : Nat)), .int ((c : Nat) : Int), .int (-((m : Nat) : Int))] ∧ k (.int (posO f (zbF cs c m i))) μ))
section
variable {G GM : Nat → List D → Mem → KE → Prop} {cs : List Nat} {f : Int} {i : Nat} {μ : Mem} {k : KE}
theorem vc_ble (m1 : AllSp GM 1 sp_end) (c0 : AllSp G 0 (sp_at ls)) (c1 : AllSp G 1 (sp_at le)) (c7 : AllSp G 7 (sp_atB blk)) (c16 : AllSp G 16 (sp_pair br beh)) (c17 : AllSp G 17 (sp_at beh)) (c18 : AllSp G 18 (sp_at lbh)) {ds} (h : sp_ble ds μ k) :
    vcSs (Γ0 G GM) ms_blank_lines_edits (ds ++ List.replicate 4 .undef) μ (retK k) := by
  obtain ⟨cs, f, i, rfl, hs, hi, hk⟩ := h
  unfold bleL at hk
  refine c0.a hs i rfl hi (c18.a hs i rfl hi ?_)
  refine c7.t hs i rfl hi ?_
  refine And.intro (fun h => ?_) (fun h => ?_)
  · have h : blk cs i = false := by
      have h : (!blk cs i) = true := h
      rw [Bool.not_eq_true'] at h; exact h
    rw [if_pos h] at hk
    refine c17.a hs i rfl hi ?_
    refine And.intro (fun h => ?_) (fun h => ?_)
    · have h : lbh cs i < beh cs i := by have := of_decide_eq_true h; (clear hi; lia)
      rw [if_pos h] at hk
      exact hk
    · have h : ¬ lbh cs i < beh cs i := by have := of_decide_eq_false h; (clear hi; lia)
      rw [if_neg h] at hk
      exact hk
  · have h : ¬ (blk cs i = false) := by
      have h : (!blk cs i) = false := h
      rw [Bool.not_eq_false'] at h; rw [h]; exact Bool.noConfusion
    rw [if_neg h] at hk
    refine c16 _ _ _ ⟨cs, f, i, rfl, hs, hi, ?_⟩
    have c3 : k (.list (edL f ((if lbh cs i < beh cs i then [(lbh cs i, beh cs i)] else []) ++ (if br cs i < ls cs i then [(br cs i, ls cs i)] else [])))) μ → vcSs (Γ0 G GM) (ms_blank_lines_edits.drop 5) [VW cs f, .int (f + (i : Nat)), .int (f + (ls cs i : Nat)), .int (f + (lbh cs i : Nat)), .int (f + (beh cs i : Nat)), .int (f + (br cs i : Nat))] μ (retK k) := by
      intro hk
      have two : ∀ acc : List D, (∀ r, (if br cs i < ls cs i then [(br cs i, ls cs i)] else []) = r → k (.list (acc ++ edL f r)) μ) →
          compGo (fun x μ k => vcAnd (Γ0 G GM) [.cmp .lt (.idx (.var 6) (.int 0)) (.idx (.var 6) (.int 1))] ([VW cs f, .int (f + (i : Nat)), .int (f + (ls cs i : Nat)), .int (f + (lbh cs i : Nat)), .int (f + (beh cs i : Nat)), .int (f + (br cs i : Nat))] ++ [x]) μ k) (fun x μ k => vcE (Γ0 G GM) (.var 6) ([VW cs f, .int (f + (i : Nat)), .int (f + (ls cs i : Nat)), .int (f + (lbh cs i : Nat)), .int (f + (beh cs i : Nat)), .int (f + (br cs i : Nat))] ++ [x]) μ k) [eD3 f (br cs i) (ls cs i) []] acc μ fun ys μ2 => k (.list ys) μ2 := by
        intro acc hk
        refine And.intro (of_decide_eq_true rfl) ⟨_, rfl, (And.intro (of_decide_eq_true rfl) ⟨_, rfl, And.intro (fun h1 => ?_) (fun h1 => ?_)⟩)⟩
        · have h1 : ¬ br cs i < ls cs i := by have := of_decide_eq_false h1; (clear hi; lia)
          refine ⟨_, rfl, fun h => (by cases h), fun _ => ?_⟩
          have := hk [] (if_neg h1)
          rw [show edL f [] = [] from rfl, List.append_nil] at this; exact this
        · have h1 : br cs i < ls cs i := by have := of_decide_eq_true h1; (clear hi; lia)
          exact ⟨_, rfl, fun _ => (hk _ (if_pos h1)), fun h => by cases h⟩
      refine And.intro (of_decide_eq_true rfl) ?_
      refine And.intro (of_decide_eq_true rfl) ⟨_, rfl, (And.intro (of_decide_eq_true rfl) ⟨_, rfl, And.intro (fun h1 => ?_) (fun h1 => ?_)⟩)⟩
      · have h1 : ¬ lbh cs i < beh cs i := by have := of_decide_eq_false h1; lia
        refine ⟨_, rfl, fun h => (by cases h), fun _ => two [] fun r hr => ?_⟩
        rw [if_neg h1, hr] at hk; exact hk
      · have h1 : lbh cs i < beh cs i := by have := of_decide_eq_true h1; lia
        refine ⟨_, rfl, fun _ => (two _ fun r hr => ?_), fun h => by cases h⟩
        rw [if_pos h1, hr] at hk; exact hk
    have c2 : k (.list (edL f (if beh cs i = cs.length ∧ le cs i < lbh cs i then [(br cs i, beh cs i)] else (if lbh cs i < beh cs i then [(lbh cs i, beh cs i)] else []) ++ (if br cs i < ls cs i then [(br cs i, ls cs i)] else [])))) μ → vcSs (Γ0 G GM) (ms_blank_lines_edits.drop 4) [VW cs f, .int (f + (i : Nat)), .int (f + (ls cs i : Nat)), .int (f + (lbh cs i : Nat)), .int (f + (beh cs i : Nat)), .int (f + (br cs i : Nat))] μ (retK k) := by
      intro hk
      refine And.intro ⟨rfl, rfl⟩ (m1.e hs (And.intro (fun h1 => And.intro (fun h => by cases h) (fun _ => c3 ?_)) (fun h1 => c1.a hs i rfl hi (And.intro (fun h2 => And.intro (fun h => by cases h) (fun _ => c3 ?_)) (fun h2 => And.intro (fun _ => ?_) (fun h => by cases h))))))
      · have h1 : beh cs i ≠ cs.length := by
          have h1 : ((f + (beh cs i : Int)) == (f + (cs.length : Int))) = false := h1
          have := by simpa using h1
          (clear hi; lia)
        rw [if_neg (fun h => h1 h.1)] at hk; exact hk
      · have h2 : ¬ le cs i < lbh cs i := by have := of_decide_eq_false h2; (clear hi; lia)
        rw [if_neg (fun h => h2 h.2)] at hk; exact hk
      · have h1 : beh cs i = cs.length := by have := eq_of_beq h1; (clear hi; lia)
        have h2 : le cs i < lbh cs i := by have := of_decide_eq_true h2; (clear h1 hi; lia)
        rw [if_pos ⟨h1, h2⟩] at hk
        exact hk
    refine And.intro (fun h1 => And.intro (fun h => by cases h) (fun _ => c2 ?_)) (fun h1 => And.intro (fun h2 => And.intro (fun h => by cases h) (fun _ => c2 ?_)) (fun h2 => And.intro (fun _ => ?_) (fun h => by cases h)))
    · have h1 : br cs i ≠ ls cs i := by
        have h1 : ((f + (br cs i : Int)) == (f + (ls cs i : Int))) = false := h1
        have := by simpa using h1
        (clear hi; lia)
      rw [if_neg (fun h => h1 h.1)] at hk; exact hk
    · have h2 : beh cs i ≠ lbh cs i := by
        have h1 : ((f + (beh cs i : Int)) == (f + (lbh cs i : Int))) = false := h2
        have := by simpa using h1
        (clear hi; lia)
      rw [if_neg (fun h => h2 h.2)] at hk; exact hk
    · have h1 : br cs i = ls cs i := by have := eq_of_beq h1; (clear hi; lia)
      have h2 : beh cs i = lbh cs i := by have := eq_of_beq h2; (clear h1 hi; lia)
      rw [if_pos ⟨h1, h2⟩] at hk
      exact hk
end
section
variable {G GM : Nat → List D → Mem → KE → Prop} {cs : List Nat} {f : Int} {i : Nat} {μ : Mem} {k : KE}
theorem teF_more (cs : List Nat) (a b : Nat) : ∀ (k k' last : Nat), last ≤ cs.length → cs.length < last + k → cs.length < last + k' → teF cs a b k last = teF cs a b k' last
  | 0, _, i, _, h, _ => by lia
  | _ + 1, 0, i, _, _, h => by lia
  | k + 1, k' + 1, i, h0, h, h' => by
    rw [teF_s, teF_s]
    by_cases q : i ≤ b
    · rw [if_pos q, if_pos q]
      by_cases q2 : i < cs.length
      · rw [if_pos q2, if_pos q2]
        have := le_bd cs (show i + 1 ≤ cs.length by lia)
        rw [teF_more cs a b k k' _ this.2 (by (clear q h'; lia)) (by (clear q h; lia))]
      · rw [if_neg q2, if_neg q2]
    · rw [if_neg q, if_neg q]
theorem edL_app (f : Int) (a b : List (Nat × Nat)) : edL f (a ++ b) = edL f a ++ edL f b := List.map_append
theorem edL_rev (f : Int) (a : List (Nat × Nat)) : edL f a.reverse = (edL f a).reverse := List.map_reverse
theorem teF_len (cs : List Nat) (a b : Nat) : ∀ (k last : Nat), (teF cs a b k last).length ≤ k
  | 0, _ => Nat.le_refl _
  | k + 1, i => by
    rw [teF_s]
    have := teF_len cs a b k (le cs (i + 1))
    split
    · rw [List.length_append]
      split <;> split <;> simp <;> lia
    · simp
theorem vc_trailing (m1 : AllSp GM 1 sp_end) (c1 : AllSp G 1 (sp_at le)) (c4 : AllSp G 4 (sp_at bb)) {ds} (h : sp_trailing ds μ k) : vcSs (Γ0 G GM) ms_trailing_edits (ds ++ List.replicate 3 .undef) μ (retK k) := by
  obtain ⟨cs, f, a, b, rfl, hs, ha, hb, hk⟩ := h
  intro r hr
  have hk := fun xs => hk r xs hr
  have hla := le_bd cs (show a ≤ cs.length by lia)
  refine c1.a hs a rfl (by lia) ?_
  obtain ⟨Iv1, hIv1⟩ : ∃ I : List D → Mem → Prop, ∀ l m, I l m ↔ ∃ (q : Int) (d : D) (xs : List (Nat × Nat)), l = [VW cs f, .int (f + (a : Nat)), .int (f + (b : Nat)), .mref r, .int q, d] ∧ m = (r, .lst (edL f xs)) :: μ ∧
      ((∃ last : Nat, q = f + (last : Nat) ∧ last ≤ cs.length ∧ a ≤ last ∧ xs.length ≤ last ∧ xs ++ teF cs a b (cs.length + 1) last = teF cs a b (cs.length + 1) (le cs a)) ∨ (q = f + (b : Nat) + 1 ∧ xs = teF cs a b (cs.length + 1) (le cs a))) := ⟨_, fun _ _ => .rfl⟩
  refine ⟨Iv1, fun l _ => (f + cs.length + 1 - iAt l 4).toNat, (hIv1 _ _).mpr ⟨_, _, [], rfl, rfl, .inl ⟨le cs a, rfl, hla.2, hla.1, Nat.zero_le _, rfl⟩⟩, ?_⟩
  intro l m hhIv1
  obtain ⟨q, d, xs, rfl, rfl, hq⟩ := (hIv1 _ _).mp hhIv1
  have fin : xs = teF cs a b (cs.length + 1) (le cs a) → vcSs (Γ0 G GM) [.ret (.rev (.var 3))] [VW cs f, .int (f + (a : Nat)), .int (f + (b : Nat)), .mref r, .int q, d] ((r, .lst (edL f xs)) :: μ) (retK k) := by
    intro e
    show match lookM ((r, MO.lst (edL f xs)) :: μ) r with | some (.lst xs) => _ | _ => False
    rw [look_cons]
    have := hk (edL f xs)
    unfold teL at this
    rw [← e, edL_rev] at this
    exact this
  refine And.intro (fun h => ?_) (fun h => fin ?_)
  · have h : q ≤ f + (b : Nat) := of_decide_eq_true h
    rcases hq with ⟨last, rfl, h1, h2, hx, h3⟩ | ⟨rfl, _⟩
    · have hbb := bb_le cs last
      have hlb : last ≤ b := by (clear hx hla hb ha; lia)
      refine c4.a hs last rfl h1 ?_
      have emax : (if f + (bb cs last : Int) > f + (a : Int) then f + (bb cs last : Int) else f + (a : Int)) = f + ((max a (bb cs last) : Nat) : Int) := by
        split <;> (clear hx hla; lia)
      show vcSs (Γ0 G GM) _ [VW cs f, .int (f + (a : Nat)), .int (f + (b : Nat)), .mref r, .int (f + (last : Nat)), .int (if f + (bb cs last : Int) > f + (a : Int) then f + (bb cs last : Int) else f + (a : Int))] _ _
      rw [emax]
      have tail : ∀ ys : List (Nat × Nat), ys.length ≤ last + 1 → ys ++ (if last < cs.length then teF cs a b cs.length (le cs (last + 1)) else []) = teF cs a b (cs.length + 1) (le cs a) →
          vcS (Γ0 G GM) (.set 4 (.ite (.cmp .lt (.var 4) (.mcall 1 (.var 0) [])) (.call 1 [.var 0, .bin .add (.var 4) (.int 1)]) (.bin .add (.var 2) (.int 1)))) [VW cs f, .int (f + (a : Nat)), .int (f + (b : Nat)), .mref r, .int (f + (last : Nat)), .int (f + ((max a (bb cs last) : Nat) : Int))] ((r, .lst (edL f ys)) :: μ) (fun o l2 m2 => match o with
          | .next => Iv1 l2 m2 ∧ (f + cs.length + 1 - iAt l2 4).toNat < (f + cs.length + 1 - (f + (last : Int))).toNat
          | .ret v => retK k (.ret v) l2 m2) := by
        intro ys hy h
        refine And.intro ⟨rfl, rfl⟩ (m1.e hs (And.intro (fun h4 => ?_) (fun h4 => ?_)))
        · have h4 : last < cs.length := by have := of_decide_eq_true h4; (clear hy emax hx hla ha; lia)
          have hn := le_bd cs (show last + 1 ≤ cs.length by (clear hy emax hx hla ha; lia))
          rw [if_pos h4] at h
          refine c1.a hs (last + 1) (by (clear hy emax hx hla hb ha; lia)) (by lia) ?_
          refine ⟨(hIv1 _ _).mpr ⟨_, _, ys, rfl, rfl, .inl ⟨_, rfl, hn.2, by (clear h4 hy emax hbb hx hla hb; lia), by (clear emax hbb hx hla hb ha; lia), ?_⟩⟩, ?_⟩
          · rw [teF_more cs a b (cs.length + 1) cs.length _ hn.2 (by (clear hy emax hbb hx hla ha; lia)) (by (clear hy emax hbb hx hla; lia))]; exact h
          · show (f + cs.length + 1 - (f + (le cs (last + 1) : Int))).toNat < _
            (clear h4 hy emax hbb hx hla hb ha; lia)
        · have h4 : ¬ last < cs.length := by have := of_decide_eq_false h4; (clear hy emax hx h1 hla ha; lia)
          rw [if_neg h4, List.append_nil] at h
          refine ⟨(hIv1 _ _).mpr ⟨_, _, ys, rfl, rfl, .inr ⟨rfl, h⟩⟩, ?_⟩
          show (f + cs.length + 1 - (f + (b : Int) + 1)).toNat < _
          (clear hy emax hbb hx hla hb ha; lia)
      rw [teF, if_pos hlb] at h3
      refine And.intro (fun h5 => ?_) (fun h5 => tail xs (by (clear emax h hla ha; lia)) ?_)
      · have h5 : max a (bb cs last) < last := by have := of_decide_eq_true h5; (clear emax hbb hx hla hb ha; lia)
        rw [if_pos h5, ← List.append_assoc] at h3
        refine And.intro ⟨_, look_cons _ _ _⟩ ?_
        show match lookM ((r, MO.lst (edL f xs)) :: μ) r with | some (.lst xs) => _ | _ => False
        rw [look_cons]
        refine And.intro ?_ ?_
        · rw [sizeLine_eq]
          show (xs.map _).length < _
          rw [List.length_map]
          have := hs.n; (clear emax hbb h hla ha; lia)
        · have := tail (xs ++ [(max a (bb cs last), last)]) (by rw [List.length_append]; show xs.length + 1 ≤ _; (clear emax h hla ha; lia)) h3
          rw [setM_fresh hr]
          rw [edL_app] at this
          exact this
      · have h5 : ¬ max a (bb cs last) < last := by have := of_decide_eq_false h5; (clear emax hbb hx hla hb ha; lia)
        rw [if_neg h5, List.nil_append] at h3
        exact h3
    · (clear hla hb ha; lia)
  · have h : ¬ q ≤ f + (b : Nat) := of_decide_eq_false h
    rcases hq with ⟨last, rfl, h1, h2, hx, h3⟩ | ⟨rfl, e⟩
    · rw [teF, if_neg (by (clear hx hla hb ha; lia)), List.append_nil] at h3; exact h3
    · exact e
end
section
variable {G GM : Nat → List D → Mem → KE → Prop} {cs : List Nat} {f : Int} {i : Nat} {μ : Mem} {k : KE}
theorem al_cases {c : Nat} (h : al c = true) : c = 97 ∨ c = 40 ∨ c = 41 ∨ c = 32 ∨ c = 9 ∨ c = 10 ∨ c = 98 := by
  unfold al at h; simpa using h
theorem al_rng {c : Nat} (h : al c = true) (h9 : c ≠ 9) (h10 : c ≠ 10) : 32 ≤ c ∧ c ≤ 98 := by
  rcases al_cases h with rfl | rfl | rfl | rfl | rfl | rfl | rfl <;> first
    | exact absurd rfl h9
    | exact absurd rfl h10
    | exact ⟨by decide, by decide⟩
theorem vc_width {ds} (h : sp_width ds μ k) : vcSs (Γ0 G GM) ms_width_at (ds ++ List.replicate 0 .undef) μ (retK k) := by
  obtain ⟨c, col, w, rfl, ha, hc, hw, hk⟩ := h
  unfold wd at hk
  refine And.intro (fun h => ?_) (fun h => ?_)
  · have h : c = 9 := by have := eq_of_beq h; (clear hw; lia)
    rw [if_pos h] at hk
    refine And.intro (show (w : Int) ≠ 0 by lia) ?_
    show k (.int ((w : Int) - (col : Int).fmod (w : Int))) μ
    rw [fmod_nat]
    have := Nat.mod_lt col hw
    rw [show ((w : Int) - ((col % w : Nat) : Int)) = ((w - col % w : Nat) : Int) by (clear h hk; lia)]; exact hk
  · have h9 : c ≠ 9 := by
      have h : ((c : Int) == 9) = false := h
      have := by simpa using h
      (clear hw; lia)
    rw [if_neg h9] at hk
    have hr := al_rng ha h9 hc
    refine And.intro (fun h => ?_) (fun h => ?_)
    · have : (c : Int) < 32 := of_decide_eq_true h
      (clear hw; lia)
    · refine And.intro (fun h => ?_) (fun h => ?_)
      · have := eq_of_beq h; (clear hw; lia)
      · refine And.intro (fun h => by cases h) (fun _ => ?_)
        refine And.intro (fun h => And.intro (fun h => by cases h) fun _ => hk) (fun h => ?_)
        have : (127 : Int) < (c : Int) := of_decide_eq_true h
        (clear hw; lia)
theorem AllSp.w (h : AllSp G 8 sp_width) {c col w : Nat} {x : Int} (hx : x = (col : Nat)) (ha : al c = true) (hc : c ≠ 10) (hw : 0 < w) (hk : k (.int ((wd c col w : Nat) : Int)) μ) : G 8 [.int ((c : Nat) : Int), .int x, .int ((w : Nat) : Int)] μ k := h _ _ _ ⟨c, col, w, by rw [hx], ha, hc, hw, hk⟩
theorem vc_codes (c8 : AllSp G 8 sp_width) {ds} (h : sp_codes ds μ k) : vcSs (Γ0 G GM) ms_column_of_codes (ds ++ List.replicate 1 .undef) μ (retK k) := by
  obtain ⟨col, w, rfl, hw, hk⟩ := h
  refine And.intro (of_decide_eq_true rfl) (And.intro (fun h => by cases h) fun _ => c8.w (c := 9) rfl rfl (by decide) hw ?_)
  show k (.int ((col : Int) + (wd 9 col w : Nat))) μ
  rw [show ((col : Int) + (wd 9 col w : Nat)) = ((col + wd 9 col w : Nat) : Int) by (clear hw; lia)]
  exact hk
theorem ls_nb (cs : List Nat) : ∀ (i j : Nat), ls cs i ≤ j → j < i → cAt cs j ≠ 10
  | 0, j, _, h => by lia
  | i + 1, j, h, h2 => by
    unfold ls at h
    by_cases q : cAt cs i = 10
    · rw [if_pos q] at h; lia
    · rw [if_neg q] at h
      by_cases e : j = i
      · rw [e]; exact q
      · exact ls_nb cs i j h (by lia)
theorem vc_column (m2 : AllSp GM 2 sp_code_at) (c0 : AllSp G 0 (sp_at ls)) (c8 : AllSp G 8 sp_width) {ds} (h : sp_column ds μ k) : vcSs (Γ0 G GM) ms_column_at (ds ++ List.replicate 2 .undef) μ (retK k) := by
  obtain ⟨cs, f, i, w, rfl, ht, hi, hw, hk⟩ := h
  have hs := ht.toSm
  have h0 := ls_le cs i
  have hlo := hs.lo; have hhi := hs.hi; have hn := hs.n
  refine c0.a hs i rfl hi (And.intro (And.intro ?_ (And.intro ?_ (And.intro ?_ (And.intro ?_ ?_)))) ?_)
  · show -2 ^ 60 ≤ f + (ls cs i : Nat); (clear hn hhi hw hi; lia)
  · show f + (ls cs i : Nat) ≤ 2 ^ 60; (clear hlo hw; lia)
  · show -2 ^ 60 ≤ f + (i : Nat); (clear hn hhi h0 hw hi; lia)
  · show f + (i : Nat) ≤ 2 ^ 60; (clear hlo h0 hw; lia)
  · show f + (i : Nat) - (f + (ls cs i : Nat)) ≤ sizeLine; rw [sizeLine_eq]; (clear hw; lia)
  have er : (f + (i : Int) - (f + (ls cs i : Int))).toNat = i - ls cs i := by (clear hlo hw hi; lia)
  have go : ∀ (n j col : Nat) (d : D), ls cs i ≤ j → j + n = i → colL w ((cs.drop j).take n) col = colAt cs i w → 
      forGo [4] (fun l m k => vcSs (Γ0 G GM) [.set 3 (.bin .add (.var 3) (.call 8 [.mcall 2 (.var 0) [.var 4], .var 3, .var 2]))] l m k) (rngD (f + (j : Nat)) n) [VW cs f, .int (f + (i : Nat)), .int (w : Nat), .int (col : Nat), d] μ
        (fun o l μ1 => match o with | .next => vcSs (Γ0 G GM) [.ret (.var 3)] l μ1 (retK k) | .ret v => retK k (.ret v) l μ1) := by
    intro n
    induction n with
    | zero =>
      intro j col d hj hji e
      rw [← e] at hk; exact hk
    | succ n ih =>
      intro j col d hj hji e
      have hjl : j < cs.length := by (clear e er hn h0 hw; lia)
      have hcx : cs[j]? = some (cAt cs j) := by unfold cAt; rw [List.getD_eq_getElem?_getD, List.getElem?_eq_getElem hjl]; rfl
      refine And.intro ⟨rfl, rfl⟩ (m2.c hs j rfl hjl (c8.w rfl (ht.al j hjl) (ls_nb cs i j hj (by (clear e er h0 hw; lia))) hw ?_))
      have := ih (j + 1) (col + wd (cAt cs j) col w) (.int (f + (j : Nat))) (by (clear e er hw hi; lia)) (by (clear e er h0 hw hi; lia)) (by
        rw [← e, List.drop_eq_getElem_cons hjl, List.take_succ_cons]
        unfold colL
        rw [List.foldl_cons]
        have : cs[j] = cAt cs j := by
          have := hcx
          rw [List.getElem?_eq_getElem hjl] at this; exact Option.some.inj this
        rw [this])
      rw [show f + ((j + 1 : Nat) : Int) = f + (j : Nat) + 1 by (clear e er h0 hw hi; lia)] at this
      rw [show (((col + wd (cAt cs j) col w : Nat)) : Int) = (col : Int) + (wd (cAt cs j) col w : Nat) by (clear e hji er hw; lia)] at this
      exact this
  have g := go (i - ls cs i) (ls cs i) 0 .undef (Nat.le_refl _) (by (clear er hw hi; lia)) rfl
  rw [← rng_map, ← er] at g
  exact g
theorem vc_untab (c9 : AllSp G 9 sp_codes) (c10 : AllSp G 10 sp_column) {ds} (h : sp_untab ds μ k) : vcSs (Γ0 G GM) ms_untabified (ds ++ List.replicate 1 .undef) μ (retK k) := by
  obtain ⟨cs, f, i, w, rfl, ht, hi, hw, hw2, hk⟩ := h
  refine c10 _ _ _ ⟨cs, f, i, w, rfl, ht, hi, hw, ?_⟩
  refine c9 _ _ _ ⟨colAt cs i w, w, rfl, hw, ?_⟩
  have e : ((colAt cs i w + wd 9 (colAt cs i w) w : Nat) : Int) - (colAt cs i w : Nat) = (unt cs i w : Nat) := by
    have : wd 9 (colAt cs i w) w = unt cs i w := rfl
    (clear hi; lia)
  have hu : unt cs i w ≤ 1000 := by unfold unt; (clear e hw hi; lia)
  show (0 : Int) ≤ ((colAt cs i w + wd 9 (colAt cs i w) w : Nat) : Int) - (colAt cs i w : Nat) ∧ ((colAt cs i w + wd 9 (colAt cs i w) w : Nat) : Int) - (colAt cs i w : Nat) ≤ 1000000 ∧ k (.list (List.replicate (((colAt cs i w + wd 9 (colAt cs i w) w : Nat) : Int) - (colAt cs i w : Nat)).toNat (.int 32))) μ
  rw [e]
  refine ⟨by (clear hu e hi; lia), by (clear e hi; lia), ?_⟩
  rw [Int.toNat_natCast]; exact hk
theorem vc_backward (m2 : AllSp GM 2 sp_code_at) (c21 : AllSp G 21 sp_untab) {ds} (h : sp_backward ds μ k) : vcSs (Γ0 G GM) ms_backward_edit (ds ++ List.replicate 0 .undef) μ (retK k) := by
  obtain ⟨cs, f, i, w, rfl, ht, hi, h0, hw, hw2, hk⟩ := h
  have hs := ht.toSm
  have ei : f + (i : Int) - 1 = f + ((i - 1 : Nat) : Int) := by (clear hi ht; lia)
  unfold bkN eD3 at hk
  refine And.intro ⟨rfl, rfl⟩ (m2.c hs (i - 1) (by lia) (by lia) (And.intro (fun h => ?_) (fun h => ?_)))
  · have h : cAt cs (i - 1) = 9 := by have := eq_of_beq h; (clear ei hi; lia)
    rw [if_pos h] at hk
    refine c21 _ _ _ ⟨cs, f, i - 1, w, by show [VW cs f, D.int (f + (i : Int) - 1), D.int (w : Nat)] = _; rw [ei], ht, by lia, hw, hw2, ?_⟩
    have hu : unt cs (i - 1) w ≤ 1000 ∧ 1 ≤ unt cs (i - 1) w := by unfold unt; have := Nat.mod_lt (colAt cs (i - 1) w) hw; (clear h ei hw hi; lia)
    refine And.intro ?_ ?_
    · show (List.replicate _ _).length ≤ _
      rw [List.length_replicate, sizeLine_eq]; (clear h ei hw2 hw hi; lia)
    · show k (.tup [.int (f + (i : Nat) - 1), .int (f + (i : Nat)), .list (pick (List.replicate (unt cs (i - 1) w) (.int 32)) (some ((1 : Nat) : Int)) none)]) μ
      rw [pick_from _ (by rw [List.length_replicate]; (clear h ei hi; lia)), List.drop_replicate, ei]; exact hk
  · have h : cAt cs (i - 1) ≠ 9 := by
      have h : ((cAt cs (i - 1) : Int) == 9) = false := h
      have := by simpa using h
      (clear ei hi; lia)
    rw [if_neg h] at hk
    show k (.tup [.int (f + (i : Nat) - 1), .int (f + (i : Nat)), .list []]) μ
    rw [ei]; exact hk
theorem skF_bd (cs : List Nat) (c : Nat) : ∀ k i, i ≤ skF cs c k i ∧ skF cs c k i ≤ i + k
  | 0, i => ⟨Nat.le_refl _, Nat.le_refl _⟩
  | k + 1, i => by
    rw [skF_s]
    have := skF_bd cs c k (i + 1)
    split <;> lia
theorem sk_bd (cs : List Nat) (c : Nat) {i : Nat} (h : i ≤ cs.length) : i ≤ sk cs c i ∧ sk cs c i ≤ cs.length := by
  have := skF_bd cs c (cs.length - i) i
  unfold sk; lia
theorem sk_step (cs : List Nat) (c : Nat) {i : Nat} (h : i < cs.length) (hc : cAt cs i ≠ c) : sk cs c i = sk cs c (i + 1) := by
  unfold sk
  rw [show cs.length - i = (cs.length - (i + 1)) + 1 by lia]
  rw [skF, if_neg hc]
theorem sk_stop (cs : List Nat) (c : Nat) {i : Nat} (h : i ≤ cs.length) (hc : i = cs.length ∨ cAt cs i = c) : sk cs c i = i := by
  unfold sk
  rcases hc with rfl | hc
  · rw [Nat.sub_self]; rfl
  · cases q : cs.length - i with
    | zero => rfl
    | succ k => rw [skF, if_pos hc]
theorem vc_zap (m0 : AllSp GM 0 sp_begin) (m1 : AllSp GM 1 sp_end) (m2 : AllSp GM 2 sp_code_at) {ds} (h : sp_zap ds μ k) : vcSs (Γ0 G GM) ms_zap_end (ds ++ List.replicate 1 .undef) μ (retK k) := by
  obtain ⟨cs, f, i, c, m, hs, hi, h⟩ := h
  have hlo := hs.lo
  have back : ∀ (m0' i : Nat) (q : Int), q = -((m0' : Nat) : Int) → i ≤ cs.length → k (.int (posO f (zbF cs c m0' i))) μ → ∀ x : Int,
      vcSs (Γ0 G GM) (ms_zap_end.drop 2) [VW cs f, .int x, .int ((c : Nat) : Int), .int q, .int (f + (i : Nat))] μ (retK k) := by
    intro m0' i0 q hq hi0 hk x
    obtain ⟨Iv1, hIv1⟩ : ∃ I : List D → Mem → Prop, ∀ l mm, I l mm ↔ ∃ (m j : Nat), l = [VW cs f, .int x, .int ((c : Nat) : Int), .int (-((m : Nat) : Int)), .int (f + (j : Nat))] ∧ mm = μ ∧ j ≤ cs.length ∧ zbF cs c m j = zbF cs c m0' i0 := ⟨_, fun _ _ => .rfl⟩
    refine ⟨Iv1, fun l _ => (-(iAt l 3)).toNat, (hIv1 _ _).mpr ⟨m0', i0, by rw [hq], rfl, hi0, rfl⟩, ?_⟩
    intro l mm hhIv1
    obtain ⟨m, j, rfl, rfl, hj, e⟩ := (hIv1 _ _).mp hhIv1
    refine And.intro (fun h => ?_) (fun h => ?_)
    · have hm : 0 < m := by have : -(m : Int) < 0 := of_decide_eq_true h; (clear hj hi0 hq hlo hi; lia)
      obtain ⟨m, rfl⟩ : ∃ m', m = m' + 1 := ⟨m - 1, by (clear hj hi0 hq hlo hi; lia)⟩
      have e : (match bkF cs c j with | none => none | some j => zbF cs c m j) = zbF cs c m0' i0 := e
      obtain ⟨Iv2, hIv2⟩ : ∃ I : List D → Mem → Prop, ∀ l m2, I l m2 ↔ ∃ (p : Nat), l = [VW cs f, .int x, .int ((c : Nat) : Int), .int (-((m + 1 : Nat) : Int)), .int (f + (p : Nat) - 1)] ∧ m2 = mm ∧ p ≤ j ∧ bkF cs c p = bkF cs c j := ⟨_, fun _ _ => .rfl⟩
      refine ⟨Iv2, fun l _ => (iAt l 4 - f + 1).toNat, (hIv2 _ _).mpr ⟨j, rfl, rfl, Nat.le_refl _, rfl⟩, ?_⟩
      intro l m3 hhIv2
      obtain ⟨p, rfl, rfl, hp, e2⟩ := (hIv2 _ _).mp hhIv2
      have out : p = 0 ∨ (0 < p ∧ cAt cs (p - 1) = c) → vcSs (Γ0 G GM) [.ite (.cmp .lt (.var 4) (.mcall 0 (.var 0) [])) [.ret (.neg (.int 1))] [], .set 3 (.bin .add (.var 3) (.int 1))] [VW cs f, .int x, .int ((c : Nat) : Int), .int (-((m + 1 : Nat) : Int)), .int (f + (p : Nat) - 1)] m3
          (fun o l2 m2 => match o with
            | .next => Iv1 l2 m2 ∧ (-(iAt l2 3)).toNat < (-(-((m + 1 : Nat) : Int))).toNat
            | .ret v => retK k (.ret v) l2 m2) := by
        intro hc
        refine And.intro ⟨rfl, rfl⟩ (m0.b hs (And.intro (fun h => ?_) (fun h => ?_)))
        · have h : p = 0 := by have : f + (p : Int) - 1 < f := of_decide_eq_true h; (clear hm hi0 hq hlo hi; lia)
          subst h
          rw [show bkF cs c 0 = none from rfl] at e2
          rw [← e2] at e
          have e : none = zbF cs c m0' i0 := e
          rw [← e] at hk
          exact hk
        · have h : p ≠ 0 := by have : ¬ f + (p : Int) - 1 < f := of_decide_eq_false h; (clear hm hi0 hq hi; lia)
          rcases hc with hc | ⟨_, hc⟩
          · exact absurd hc h
          · have hb : bkF cs c p = some (p - 1) := by
              conv => lhs; rw [show p = (p - 1) + 1 by (clear hc hm hi0 hq hlo hi; lia), bkF, if_pos hc]
            refine ⟨(hIv1 _ _).mpr ⟨m, p - 1, ?_, rfl, by (clear hc hm hi0 hq hlo hi; lia), ?_⟩, ?_⟩
            · show [VW cs f, D.int x, .int (c : Nat), .int (-((m + 1 : Nat) : Int) + 1), .int (f + (p : Int) - 1)] = _
              rw [show -((m + 1 : Nat) : Int) + 1 = -((m : Nat) : Int) by (clear hc hj hi0 hq hlo hi; lia), show f + (p : Int) - 1 = f + ((p - 1 : Nat) : Int) by (clear hc hm hi0 hq hlo hi; lia)]
            · rw [← e, ← e2, hb]
            · show (-(-((m + 1 : Nat) : Int) + 1)).toNat < _
              (clear hc hm hi0 hq hlo hi; lia)
      refine And.intro ⟨rfl, rfl⟩ (m0.b hs (And.intro (fun h => ?_) (fun h => ?_)))
      · have h : p = 0 := by have : ¬ f ≤ f + (p : Int) - 1 := of_decide_eq_false h; (clear hm hi0 hq hlo hi; lia)
        exact And.intro (fun h => by cases h) (fun _ => out (.inl h))
      · have h : 0 < p := by have : f ≤ f + (p : Int) - 1 := of_decide_eq_true h; (clear hm hi0 hq hi; lia)
        refine And.intro ⟨rfl, rfl⟩ (m2.c hs (p - 1) (by (clear hm hi0 hq hlo hi; lia)) (by (clear hm hi0 hq hlo hi; lia)) (And.intro (fun h3 => ?_) (fun h3 => ?_)))
        · have h3 : cAt cs (p - 1) = c := by
            have h3 : ((cAt cs (p - 1) : Int) != (c : Int)) = false := h3
            have := by simpa using h3
            (clear hm hi0 hq hlo hi; lia)
          exact And.intro (fun h => by cases h) (fun _ => out (.inr ⟨h, h3⟩))
        · have h3 : cAt cs (p - 1) ≠ c := by
            have h3 : ((cAt cs (p - 1) : Int) != (c : Int)) = true := h3
            have := by simpa using h3
            (clear hm hi0 hq hlo hi; lia)
          have hb : bkF cs c p = bkF cs c (p - 1) := by
            conv => lhs; rw [show p = (p - 1) + 1 by (clear hm hi0 hq hlo hi; lia), bkF, if_neg h3]
          refine And.intro (fun _ => ?_) (fun h => by cases h)
          refine ⟨(hIv2 _ _).mpr ⟨p - 1, ?_, rfl, by (clear h hi0; lia), by rw [← e2, hb]⟩, ?_⟩
          · show [VW cs f, D.int x, .int (c : Nat), .int (-((m + 1 : Nat) : Int)), .int (f + (p : Int) - 1 - 1)] = _
            rw [show f + (p : Int) - 1 - 1 = f + ((p - 1 : Nat) : Int) - 1 by (clear hm hi0 hq hlo hi; lia)]
          · show (f + (p : Int) - 1 - 1 - f + 1).toNat < (f + (p : Int) - 1 - f + 1).toNat
            (clear hm hi0 hq hi; lia)
    · have hm : m = 0 := by have : ¬ (-(m : Int) < 0) := of_decide_eq_false h; (clear hj hi0 hq hlo hi; lia)
      subst hm
      rw [← e] at hk; exact hk
  rcases h with ⟨rfl, hk⟩ | ⟨rfl, hk⟩
  · refine ?_
    obtain ⟨Iv3, hIv3⟩ : ∃ I : List D → Mem → Prop, ∀ l mm, I l mm ↔ ∃ (q j : Nat), l = [VW cs f, .int (f + (i : Nat)), .int ((c : Nat) : Int), .int ((q : Nat) : Int), .int (f + (j : Nat))] ∧ mm = μ ∧ j ≤ cs.length ∧ zfF cs c q j = zfF cs c m i := ⟨_, fun _ _ => .rfl⟩
    refine ⟨Iv3, fun l _ => (iAt l 3).toNat, (hIv3 _ _).mpr ⟨m, i, rfl, rfl, hi, rfl⟩, ?_⟩
    intro l mm hhIv3
    obtain ⟨q, j, rfl, rfl, hj, e⟩ := (hIv3 _ _).mp hhIv3
    refine And.intro (fun h => ?_) (fun h => ?_)
    · have hq : 0 < q := by have : (0 : Int) < (q : Int) := of_decide_eq_true h; (clear hj hlo hi; lia)
      obtain ⟨q, rfl⟩ : ∃ q', q = q' + 1 := ⟨q - 1, by (clear hj hlo hi; lia)⟩
      have e : (if sk cs c j = cs.length then none else zfF cs c q (sk cs c j + 1)) = zfF cs c m i := e
      have hsk := sk_bd cs c hj
      obtain ⟨Iv4, hIv4⟩ : ∃ I : List D → Mem → Prop, ∀ l m2, I l m2 ↔ ∃ (p : Nat), l = [VW cs f, .int (f + (i : Nat)), .int ((c : Nat) : Int), .int ((q + 1 : Nat) : Int), .int (f + (p : Nat))] ∧ m2 = mm ∧ p ≤ cs.length ∧ sk cs c p = sk cs c j := ⟨_, fun _ _ => .rfl⟩
      refine ⟨Iv4, fun l _ => (f + cs.length - iAt l 4).toNat, (hIv4 _ _).mpr ⟨j, rfl, rfl, hj, rfl⟩, ?_⟩
      intro l m3 hhIv4
      obtain ⟨p, rfl, rfl, hp, e2⟩ := (hIv4 _ _).mp hhIv4
      have out : sk cs c p = p → vcSs (Γ0 G GM) [.ite (.cmp .eq (.var 4) (.mcall 1 (.var 0) [])) [.ret (.neg (.int 1))] [], .set 4 (.bin .add (.var 4) (.int 1)), .set 3 (.bin .sub (.var 3) (.int 1))] [VW cs f, .int (f + (i : Nat)), .int ((c : Nat) : Int), .int ((q + 1 : Nat) : Int), .int (f + (p : Nat))] m3
          (fun o l2 m2 => match o with
            | .next => Iv3 l2 m2 ∧ (iAt l2 3).toNat < (((q + 1 : Nat) : Int)).toNat
            | .ret v => retK k (.ret v) l2 m2) := by
        intro hc
        refine And.intro ⟨rfl, rfl⟩ (m1.e hs (And.intro (fun h => ?_) (fun h => ?_)))
        · have h : p = cs.length := by have := eq_of_beq h; (clear hc hsk hq hj hi; lia)
          rw [if_pos (by rw [← e2, hc, h])] at e
          rw [← e] at hk
          exact hk
        · have h : p ≠ cs.length := by
            have h : ((f + (p : Int)) == (f + (cs.length : Int))) = false := h
            have := by simpa using h
            (clear hc hsk hq hj hlo hi; lia)
          rw [if_neg (by rw [← e2, hc]; exact h)] at e
          refine ⟨(hIv3 _ _).mpr ⟨q, p + 1, ?_, rfl, by (clear hc hsk hq hj hlo hi; lia), by rw [← e, ← e2, hc]⟩, ?_⟩
          · show [VW cs f, D.int (f + (i : Nat)), .int (c : Nat), .int (((q + 1 : Nat) : Int) - 1), .int (f + (p : Int) + 1)] = _
            rw [show ((q + 1 : Nat) : Int) - 1 = (q : Nat) by (clear hj hlo hi; lia), show f + (p : Int) + 1 = f + ((p + 1 : Nat) : Int) by (clear hsk hq hj hi; lia)]
          · show (((q + 1 : Nat) : Int) - 1).toNat < _
            (clear hq hlo hi; lia)
      refine And.intro ⟨rfl, rfl⟩ (m1.e hs (And.intro (fun h => ?_) (fun h => ?_)))
      · have h : p = cs.length := by have : ¬ f + (p : Int) < f + cs.length := of_decide_eq_false h; (clear hsk hq hj hi; lia)
        exact And.intro (fun h => by cases h) (fun _ => out (sk_stop cs c hp (.inl h)))
      · have h : p < cs.length := by have : f + (p : Int) < f + cs.length := of_decide_eq_true h; (clear hsk hq hj hi; lia)
        refine And.intro ⟨rfl, rfl⟩ (m2.c hs p rfl h (And.intro (fun h3 => ?_) (fun h3 => ?_)))
        · have h3 : cAt cs p = c := by
            have h3 : ((cAt cs p : Int) != (c : Int)) = false := h3
            have := by simpa using h3
            (clear e2 hsk hq hj hlo hi; lia)
          exact And.intro (fun h => by cases h) (fun _ => out (sk_stop cs c hp (.inr h3)))
        · have h3 : cAt cs p ≠ c := by
            have h3 : ((cAt cs p : Int) != (c : Int)) = true := h3
            have := by simpa using h3
            (clear e2 hsk hq hj hlo hi; lia)
          refine And.intro (fun _ => ?_) (fun h => by cases h)
          refine ⟨(hIv4 _ _).mpr ⟨p + 1, ?_, rfl, h, by rw [← e2, sk_step cs c h h3]⟩, ?_⟩
          · show [VW cs f, D.int (f + (i : Nat)), .int (c : Nat), .int ((q + 1 : Nat) : Int), .int (f + (p : Int) + 1)] = _
            rw [show f + (p : Int) + 1 = f + ((p + 1 : Nat) : Int) by (clear hq hj hi; lia)]
          · show (f + (cs.length : Int) - (f + (p : Int) + 1)).toNat < (f + (cs.length : Int) - (f + (p : Int))).toNat
            (clear h3 e2 hsk hq hj hi; lia)
    · have hq : q = 0 := by have : ¬ ((0 : Int) < (q : Int)) := of_decide_eq_false h; (clear hj hlo hi; lia)
      subst hq
      refine back 0 j _ rfl hj ?_ _
      rw [← e] at hk; exact hk
  · refine ?_
    refine ⟨fun l mm => l = [VW cs f, .int (f + (i : Nat)), .int ((c : Nat) : Int), .int (-((m : Nat) : Int)), .int (f + (i : Nat))] ∧ mm = μ, fun l _ => 0, ⟨rfl, rfl⟩, ?_⟩
    rintro l mm ⟨rfl, rfl⟩
    refine And.intro (fun h => ?_) (fun h => back m i _ rfl hi hk _)
    have : (0 : Int) < -(m : Int) := of_decide_eq_true h
    (clear hlo hi; lia)
end
noncomputable def sp_own (ds : List D) (μ : Mem) (k : KE) : Prop := ∃ r c kvs m fl, ds = [TB r, .int ((c : Nat) : Int)] ∧ al c = true ∧ lookM μ r = some (.dict kvs) ∧ valD kvs ((c : Nat) : Int) = some (SY (S8 (kd c)) m fl) ∧ k (SY (S8 (kd c)) m fl) μ
noncomputable def kindsL : List Nat := [32, 119, 95, 46, 40, 41, 39, 34, 92, 47, 36, 60, 62, 64, 33, 124]
noncomputable def RdS (x : List Nat) (p : Nat × D) : Prop := p.1 ≠ 45 ∧ p.1 ∈ kindsL ∧ ((x = [p.1] ∧ p.2 = .none) ∨ ∃ b : Nat, x = [p.1, b] ∧ b ≠ 32 ∧ p.2 = .int ((b : Nat) : Int))
noncomputable def syn (p : Nat × D) : D := SY (S8 [p.1]) p.2 (.str (S8 []))
noncomputable def sp_read (ds : List D) (μ : Mem) (k : KE) : Prop := ∃ x p, ds = [.str (S8 x)] ∧ RdS x p ∧ k (syn p) μ
noncomputable def sp_flags (ds : List D) (μ : Mem) (k : KE) : Prop := ds = [.str (S8 [])] ∧ k (.str (S8 [])) μ
noncomputable def sp_Syntax (ds : List D) (μ : Mem) (k : KE) : Prop := ∃ x m fl, ds = [.str x, m, .str fl] ∧ (m = .none ∨ ∃ n : Int, m = .int n) ∧ k (SY x m (.str fl)) μ
noncomputable def sp_Table (ds : List D) (μ : Mem) (k : KE) : Prop := ds = [] ∧ ∀ r, lookM μ r = none → k (TB r) ((r, .dict []) :: μ)
noncomputable def modL (kvs : List (Int × D)) (t : List Nat) (v : D) : List (Int × D) := t.foldl (fun kv c => storeD kv ((c : Nat) : Int) v) kvs
noncomputable def sp_modify (ds : List D) (μ : Mem) (k : KE) : Prop := ∃ r t x p kvs μ0, ds = [TB r, .str (S8 t), .str (S8 x)] ∧ RdS x p ∧ t.length ≤ 100 ∧ kvs.length ≤ 500 ∧ μ = (r, .dict kvs) :: μ0 ∧ lookM μ0 r = none ∧ k .none ((r, .dict (modL kvs t (syn p))) :: μ0)
noncomputable def lettersL : List Nat := [97, 98, 99, 100, 101, 102, 103, 104, 105, 106, 107, 108, 109, 110, 111, 112, 113, 114, 115, 116, 117, 118, 119, 120, 121, 122, 65, 66, 67, 68, 69, 70, 71, 72, 73, 74, 75, 76, 77, 78, 79, 80, 81, 82, 83, 84, 85, 86, 87, 88, 89, 90, 48, 49, 50, 51, 52, 53, 54, 55, 56, 57]
noncomputable def sp_letters (ds : List D) (μ : Mem) (k : KE) : Prop := ds = [] ∧ k (.str (S8 lettersL)) μ
noncomputable def sp_table (ds : List D) (μ : Mem) (k : KE) : Prop := ds = [] ∧ ∀ r kvs, lookM μ r = none → TabOk kvs → k (TB r) ((r, .dict kvs) :: μ)
theorem storeD_len (kvs : List (Int × D)) (c : Int) (v : D) : (storeD kvs c v).length ≤ kvs.length + 1 := by
  unfold storeD; split
  · rw [List.length_map]; lia
  · rw [List.length_append]; exact Nat.le_refl _
theorem modL_len (v : D) : ∀ (t : List Nat) (kvs : List (Int × D)), (modL kvs t v).length ≤ kvs.length + t.length
  | [], _ => Nat.le_refl _
  | c :: t, kvs => by
    have := modL_len v t (storeD kvs ((c : Nat) : Int) v)
    have := storeD_len kvs ((c : Nat) : Int) v
    show (modL (storeD kvs ((c : Nat) : Int) v) t v).length ≤ _
    rw [List.length_cons]; lia
theorem find_map_ne {c c' : Int} {v : D} (h : c ≠ c') : ∀ kvs : List (Int × D), valD (kvs.map fun kv => if kv.1 = c then (kv.1, v) else kv) c' = valD kvs c'
  | [] => rfl
  | (x, d) :: r => by
    have ih := find_map_ne (v := v) h r
    unfold valD at ih ⊢
    rw [List.map_cons, List.find?_cons, List.find?_cons]
    by_cases q : x = c
    · subst q
      rw [if_pos rfl, decide_eq_false h]; exact ih
    · rw [if_neg q]
      by_cases q2 : x = c'
      · rw [decide_eq_true q2]
      · rw [decide_eq_false q2]; exact ih
theorem find_map_eq {c : Int} {v : D} : ∀ kvs : List (Int × D), kvs.any (fun kv => kv.1 = c) = true → valD (kvs.map fun kv => if kv.1 = c then (kv.1, v) else kv) c = some v
  | [], h => by cases h
  | (x, d) :: r, h => by
    unfold valD
    rw [List.map_cons, List.find?_cons]
    by_cases q : x = c
    · subst q
      rw [if_pos rfl, decide_eq_true rfl]; rfl
    · rw [if_neg q, decide_eq_false q]
      rw [List.any_cons, decide_eq_false q, Bool.false_or] at h
      exact find_map_eq r h
theorem find_none {c : Int} : ∀ kvs : List (Int × D), kvs.any (fun kv => kv.1 = c) = false → valD kvs c = none
  | [], _ => rfl
  | (x, d) :: r, h => by
    rw [List.any_cons, Bool.or_eq_false_iff] at h
    unfold valD
    rw [List.find?_cons, h.1]
    exact find_none r h.2
theorem val_store (kvs : List (Int × D)) (c c' : Int) (v : D) : valD (storeD kvs c v) c' = if c = c' then some v else valD kvs c' := by
  unfold storeD
  cases q : kvs.any (fun kv => kv.1 = c) with
  | true =>
    rw [if_pos rfl]
    split
    · rename_i e; rw [← e]; exact find_map_eq kvs q
    · rename_i e; exact find_map_ne e kvs
  | false =>
    rw [if_neg Bool.false_ne_true]
    have app : valD (kvs ++ [(c, v)]) c' = (valD kvs c').or (if c = c' then some v else none) := by
      unfold valD
      rw [List.find?_append]
      cases e : kvs.find? fun kv => kv.1 = c' with
      | some p => rfl
      | none =>
        rw [Option.none_or, List.find?_cons]
        by_cases q2 : c = c'
        · rw [decide_eq_true q2, if_pos q2]; rfl
        · rw [decide_eq_false q2, if_neg q2]; rfl
    rw [app]
    by_cases q2 : c = c'
    · subst q2
      rw [find_none kvs q, if_pos rfl]; rfl
    · rw [if_neg q2, if_neg q2, Option.or_none]
theorem val_mod (v : D) (c : Nat) : ∀ (t : List Nat) (kvs : List (Int × D)), valD (modL kvs t v) ((c : Nat) : Int) = if t.contains c then some v else valD kvs ((c : Nat) : Int)
  | [], _ => by rfl
  | a :: t, kvs => by
    show valD (modL (storeD kvs ((a : Nat) : Int) v) t v) ((c : Nat) : Int) = _
    rw [val_mod v c t, val_store]
    by_cases q : t.contains c = true
    · rw [if_pos q, if_pos (by rw [List.contains_cons, q, Bool.or_true])]
    · rw [if_neg q]
      by_cases q2 : (a : Int) = (c : Int)
      · rw [if_pos q2, if_pos (by rw [List.contains_cons, show a = c by lia]; simp)]
      · rw [if_neg q2, if_neg (by
          rw [List.contains_cons, Bool.or_eq_true]
          rintro (h | h)
          · have := eq_of_beq h; lia
          · exact q h)]
section
variable {G GM : Nat → List D → Mem → KE → Prop} {cs : List Nat} {f : Int} {i : Nat} {μ : Mem} {k : KE}
theorem kd_at {c : Nat} (h : al c = true) : (S8 (kd c) == (⟨#[64]⟩ : Str)) = false := by
  show (S8 (kd c) == S8 [64]) = false
  rw [S8_beq]
  rcases al_cases h with rfl | rfl | rfl | rfl | rfl | rfl | rfl <;> decide
theorem vc_own {ds} (h : sp_own ds μ k) : vcSs (Γ0 G GM) ms_SyntaxTable_own (ds ++ List.replicate 1 .undef) μ (retK k) := by
  obtain ⟨r, c, kvs, m, fl, rfl, ha, hl, hv, hk⟩ := h
  refine ⟨rfl, rfl, _, rfl, And.intro ⟨kvs, hl⟩ ?_⟩
  show match lookM μ r with | some (.dict kvs) => _ | _ => False
  rw [hl]
  show (fun d => vcSs (Γ0 G GM) (ms_SyntaxTable_own.drop 1) [TB r, .int (c : Nat), d] μ (retK k)) ((valD kvs (c : Nat)).getD .none)
  rw [hv]
  refine And.intro (fun h => by cases h) (fun _ => ?_)
  refine ⟨rfl, rfl, _, rfl, ?_⟩
  show ((S8 (kd c) == (⟨#[64]⟩ : Str)) = true → _) ∧ ((S8 (kd c) == (⟨#[64]⟩ : Str)) = false → _)
  exact And.intro (fun h => by rw [kd_at ha] at h; cases h) (fun _ => And.intro (fun h => by cases h) (fun _ => hk))
theorem vc_at (m4 : AllSp GM 4 sp_own) {ds} (h : sp_own ds μ k) : vcSs (Γ0 G GM) ms_SyntaxTable_at (ds ++ List.replicate 2 .undef) μ (retK k) := by
  obtain ⟨r, c, kvs, m, fl, rfl, ha, hl, hv, hk⟩ := h
  refine ⟨fun l mm => l = [TB r, .int (c : Nat), TB r, .undef] ∧ mm = μ, fun _ _ => 0, ⟨rfl, rfl⟩, ?_⟩
  rintro l mm ⟨rfl, rfl⟩
  refine And.intro (fun _ => ?_) (fun h => by cases h)
  refine And.intro ⟨rfl, rfl⟩ (m4 _ _ _ ⟨r, c, kvs, m, fl, rfl, ha, hl, hv, ?_⟩)
  exact And.intro (fun _ => hk) (fun h => by cases h)
theorem vc_kind_of (m5 : AllSp GM 5 sp_own) {ds} (h : sp_kind_of ds μ k) : vcSs (Γ0 G GM) ms_SyntaxTable_kind_of (ds ++ List.replicate 0 .undef) μ (retK k) := by
  obtain ⟨r, c, rfl, ha, ⟨kvs, hl, ht⟩, hk⟩ := h
  obtain ⟨m, fl, hv⟩ := ht c ha
  refine And.intro ⟨rfl, rfl⟩ (m5 _ _ _ ⟨r, c, kvs, m, fl, rfl, ha, hl, hv, ?_⟩)
  exact ⟨rfl, rfl, _, rfl, hk⟩
theorem vc_letters {ds} (h : sp_letters ds μ k) : vcSs (Γ0 G GM) ms_letters (ds ++ List.replicate 0 .undef) μ (retK k) := by
  obtain ⟨rfl, hk⟩ := h
  exact hk
theorem vc_flags {ds} (h : sp_flags ds μ k) : vcSs (Γ0 G GM) ms_sorted_flags (ds ++ List.replicate 0 .undef) μ (retK k) := by
  obtain ⟨rfl, hk⟩ := h
  refine And.intro trivial (And.intro (show (8 : Nat) ≤ sizeLine by rw [sizeLine_eq]; decide) ?_)
  have one : ∀ (c : Nat) (rest acc : List D) (kk : List D → Mem → Prop), compGo (fun x μ k => vcAnd (Γ0 G GM) [.isIn false (.var 1) (.var 0)] ([.str (S8 [])] ++ [x]) μ k) (fun x μ k => vcE (Γ0 G GM) (.var 1) ([.str (S8 [])] ++ [x]) μ k) rest acc μ kk →
      compGo (fun x μ k => vcAnd (Γ0 G GM) [.isIn false (.var 1) (.var 0)] ([.str (S8 [])] ++ [x]) μ k) (fun x μ k => vcE (Γ0 G GM) (.var 1) ([.str (S8 [])] ++ [x]) μ k) (.str (S8 [c]) :: rest) acc μ kk := by
    intro c rest acc kk h
    show ((Txt.contains (S8 []) (S8 [c]) != false) = false → _) ∧ ((Txt.contains (S8 []) (S8 [c]) != false) = true → _)
    rw [contains_nil]
    exact And.intro (fun _ => ⟨false, rfl, fun h => (by cases h), fun _ => h⟩) (fun h => by cases h)
  refine one 49 _ _ _ (one 50 _ _ _ (one 51 _ _ _ (one 52 _ _ _ (one 98 _ _ _ (one 99 _ _ _ (one 110 _ _ _ (one 112 _ _ _ ?_)))))))
  exact ⟨[], rfl, by decide, hk⟩
theorem it0 (a : Nat) (r : List Nat) : Txt.item (S8 (a :: r)) 0 = S8 [a] := item_nn (a :: r) (i := 0) rfl
theorem it1 (a b : Nat) (r : List Nat) : Txt.item (S8 (a :: b :: r)) 1 = S8 [b] := item_nn (a :: b :: r) (i := 1) rfl
theorem sl2a (a : Nat) : Txt.slice (S8 [a]) (some 2) none = S8 [] := rfl
theorem sl2b (a b : Nat) : Txt.slice (S8 [a, b]) (some 2) none = S8 [] := slice_from [a, b] (i := 2) (Nat.le_refl 2)
theorem S8_ne {a b : List Nat} (h : a ≠ b) : (S8 a == S8 b) = false := by rw [S8_beq, decide_eq_false h]
theorem vc_read (c24 : AllSp G 24 sp_flags) (c38 : AllSp G 38 sp_Syntax) {ds} (h : sp_read ds μ k) : vcSs (Γ0 G GM) ms_read_syntax (ds ++ List.replicate 3 .undef) μ (retK k) := by
  obtain ⟨x, p, rfl, hx, hk⟩ := h
  obtain ⟨a, p2⟩ := p
  obtain ⟨r, rfl, ha, hin, hr⟩ : ∃ r, x = a :: r ∧ a ≠ 45 ∧ a ∈ kindsL ∧ ((r = [] ∧ p2 = .none) ∨ ∃ b : Nat, r = [b] ∧ b ≠ 32 ∧ p2 = .int ((b : Nat) : Int)) := by
    obtain ⟨h1, h2, ⟨h3, h4⟩ | ⟨b, h3, h4, h5⟩⟩ := hx
    · exact ⟨[], h3, h1, h2, .inl ⟨rfl, h4⟩⟩
    · exact ⟨[b], h3, h1, h2, .inr ⟨b, rfl, h4, h5⟩⟩
  have hlen : (S8 (a :: r)).length ≤ sizeLine := by
    rw [S8_len, sizeLine_eq]
    rcases hr with ⟨rfl, _⟩ | ⟨b, rfl, _⟩
    · exact of_decide_eq_true (show decide (1 ≤ 16777216) = true from rfl)
    · exact of_decide_eq_true (show decide (2 ≤ 16777216) = true from rfl)
  have hpos : (0 : Int) < ((S8 (a :: r)).length : Int) := by rw [S8_len, List.length_cons]; (clear hlen; lia)
  show ((S8 (a :: r) == S8 []) = true → _) ∧ ((S8 (a :: r) == S8 []) = false → _)
  rw [S8_ne (List.cons_ne_nil a r)]
  refine And.intro (fun h => by cases h) (fun _ => ?_)
  have tail : ∀ mt : D, (mt = .none ∨ ∃ n : Int, mt = .int n) → p2 = mt → Txt.slice (S8 (a :: r)) (some 2) none = S8 [] → vcSs (Γ0 G GM) (ms_read_syntax.drop 3) [.str (S8 (a :: r)), .str (S8 [a]), mt, .undef] μ (retK k) := by
    intro mt hm hp hsl
    refine And.intro hlen ?_
    rw [hsl]
    show ((Txt.contains (S8 kindsL) (S8 [a]) != true) = true → _) ∧ ((Txt.contains (S8 kindsL) (S8 [a]) != true) = false → _)
    rw [contains_one, decide_eq_true hin]
    refine And.intro (fun h => by cases h) (fun _ => ?_)
    refine And.intro (Nat.zero_le _) ⟨[], rfl, ?_⟩
    refine And.intro (fun h => by cases h) (fun _ => And.intro (fun h => by cases h) (fun _ => ?_))
    refine onB_of (by rcases hm with rfl | ⟨n, rfl⟩ <;> rfl) (c24 _ _ _ ⟨rfl, c38 _ _ _ ⟨S8 [a], mt, S8 [], rfl, hm, ?_⟩⟩)
    rw [hp] at hk
    exact hk
  refine And.intro hlen (And.intro (show -((S8 (a :: r)).length : Int) ≤ 0 by (clear hpos hlen; lia)) (And.intro hpos ?_))
  rw [it0]
  show ((S8 [a] == S8 [45]) = true → _) ∧ ((S8 [a] == S8 [45]) = false → _)
  rw [S8_ne (fun h => ha (by cases h; rfl))]
  refine And.intro (fun h => by cases h) (fun _ => And.intro hlen (And.intro (show -((S8 (a :: r)).length : Int) ≤ 0 by (clear hpos hlen; lia)) (And.intro hpos ?_)))
  rw [it0]
  refine And.intro hlen ?_
  rcases hr with ⟨rfl, hp⟩ | ⟨b, rfl, hb, hp⟩
  · exact And.intro (fun _ => And.intro (fun _ => tail .none (.inl rfl) hp (sl2a a)) (fun h => by cases h)) (fun h => by cases h)
  · have h1 : (1 : Int) < ((S8 [a, b]).length : Int) := by rw [S8_len]; show (1 : Int) < 2; decide
    have fin : vcE (Γ0 G GM) (.bi .ord [.idx (.var 0) (.int 1)]) [.str (S8 [a, b]), .str (S8 [a]), .undef, .undef] μ fun d μ1 => vcSs (Γ0 G GM) (ms_read_syntax.drop 3) ([.str (S8 [a, b]), .str (S8 [a]), .undef, .undef].set 2 d) μ1 (retK k) := by
      refine And.intro hlen (And.intro (show -((S8 [a, b]).length : Int) ≤ 1 by (clear hlen; lia)) (And.intro h1 ?_))
      rw [it1]
      exact ⟨b, rfl, tail (.int (b : Nat)) (.inr ⟨_, rfl⟩) hp (sl2b a b)⟩
    refine And.intro (fun h => by cases h) (fun _ => And.intro hlen (And.intro (show -((S8 [a, b]).length : Int) ≤ 1 by lia) (And.intro h1 ?_)))
    rw [it1]
    show ((S8 [b] == S8 [32]) = true → _) ∧ ((S8 [b] == S8 [32]) = false → _)
    rw [S8_ne (fun h => hb (by cases h; rfl))]
    exact And.intro (fun h => by cases h) (fun _ => And.intro (fun h => by cases h) (fun _ => fin))
end
section
variable {G GM : Nat → List D → Mem → KE → Prop} {cs : List Nat} {f : Int} {i : Nat} {μ : Mem} {k : KE}
theorem vc_modify (c25 : AllSp G 25 sp_read) {ds} (h : sp_modify ds μ k) : vcSs (Γ0 G GM) ms_SyntaxTable_modify_all (ds ++ List.replicate 2 .undef) μ (retK k) := by
  obtain ⟨r, t, x, p, kvs, μ0, rfl, hx, hl, hl2, rfl, hf, hk⟩ := h
  refine c25 _ _ _ ⟨x, p, rfl, hx, ?_⟩
  refine And.intro ?_ ?_
  · show (t.map _).length ≤ sizeLine
    rw [List.length_map, sizeLine_eq]; lia
  have go : ∀ (l : List Nat) (kvs : List (Int × D)) (d : D), kvs.length + l.length ≤ 600 → modL kvs l (syn p) = modL kvs l (syn p) → k .none ((r, .dict (modL kvs l (syn p))) :: μ0) →
      forGo [4] (fun l m k => vcSs (Γ0 G GM) [.setI (.attr 4 (.var 0)) (.bi .ord [.var 4]) (.var 3)] l m k) (l.map fun c => D.str ⟨#[c]⟩) [TB r, .str (S8 t), .str (S8 x), syn p, d] ((r, .dict kvs) :: μ0)
        (fun o l μ1 => match o with | .next => vcSs (Γ0 G GM) [] l μ1 (retK k) | .ret v => retK k (.ret v) l μ1) := by
    intro l
    induction l with
    | nil => intro kvs d _ _ hk; exact hk
    | cons c l ih =>
      intro kvs d hn _ hk
      rw [List.length_cons] at hn
      refine ⟨rfl, rfl, _, rfl, ⟨c, rfl, ?_⟩⟩
      show match lookM ((r, MO.dict kvs) :: μ0) r with | some (.lst xs) => _ | some (.dict kvs) => _ | none => False
      rw [look_cons]
      refine And.intro (show kvs.length < 1000 by (clear hl2 hl; lia)) ?_
      rw [setM_fresh hf]
      have := storeD_len kvs ((c : Nat) : Int) (syn p)
      exact ih (storeD kvs ((c : Nat) : Int) (syn p)) (.str ⟨#[c]⟩) (by (clear hl2 hl; lia)) rfl hk
  exact go t kvs .undef (by lia) rfl hk
theorem AllSp.mo (h : AllSp GM 6 sp_modify) {r : Addr} {t x : List Nat} {p : Nat × D} {kvs : List (Int × D)} {n : Nat} (hx : RdS x p) (hl : t.length ≤ 100) (hn : kvs.length ≤ n) (hn2 : n ≤ 500) (hf : lookM μ r = none) {T X : Str} (hT : T = S8 t) (hX : X = S8 x) (hk : ∀ kvs', kvs'.length ≤ n + t.length → (∀ c : Nat, valD kvs' ((c : Nat) : Int) = if t.contains c then some (syn p) else valD kvs ((c : Nat) : Int)) → k .none ((r, .dict kvs') :: μ)) :
    GM 6 [TB r, .str T, .str X] ((r, .dict kvs) :: μ) k := by
  subst hT; subst hX
  exact h _ _ _ ⟨r, t, x, p, kvs, μ, rfl, hx, hl, Nat.le_trans hn hn2, rfl, hf, hk _ (Nat.le_trans (modL_len _ _ _) (Nat.add_le_add_right hn _)) fun c => val_mod _ _ _ _⟩
theorem RdS.one {a : Nat} (h : a ≠ 45) (h2 : a ∈ kindsL) : RdS [a] (a, .none) := ⟨h, h2, .inl ⟨rfl, rfl⟩⟩
theorem RdS.two {a b : Nat} (h : a ≠ 45) (h2 : a ∈ kindsL) (h3 : b ≠ 32) : RdS [a, b] (a, .int ((b : Nat) : Int)) := ⟨h, h2, .inr ⟨b, rfl, h3, rfl⟩⟩
theorem app_str {a b : List Nat} {X : Str} (h : X = S8 b) : S8 a ++ X = S8 (a ++ b) := by rw [h, S8_app]
theorem sk_val {k1 k0 : List (Int × D)} {t : List Nat} {v : D} {c : Nat} (h : ∀ c : Nat, valD k1 ((c : Nat) : Int) = if t.contains c then some v else valD k0 ((c : Nat) : Int)) (hc : t.contains c = false) : valD k1 ((c : Nat) : Int) = valD k0 ((c : Nat) : Int) := by
  rw [h, hc]; rfl
theorem hit_val {k1 k0 : List (Int × D)} {t : List Nat} {v : D} {c : Nat} (h : ∀ c : Nat, valD k1 ((c : Nat) : Int) = if t.contains c then some v else valD k0 ((c : Nat) : Int)) (hc : t.contains c = true) : valD k1 ((c : Nat) : Int) = some v := by
  rw [h, hc]; rfl
theorem vc_table (m6 : AllSp GM 6 sp_modify) (c26 : AllSp G 26 sp_letters) (c39 : AllSp G 39 sp_Table) {ds} (h : sp_table ds μ k) : vcSs (Γ0 G GM) ms_standard_table (ds ++ List.replicate 3 .undef) μ (retK k) := by
  obtain ⟨rfl, hk⟩ := h
  refine c39 _ _ _ ⟨rfl, fun r hr => ?_⟩
  have hk := fun kvs => hk r kvs hr
  refine And.intro ⟨rfl, rfl⟩ (c26 _ _ _ ⟨rfl, And.intro (of_decide_eq_true rfl) (m6.mo (t := lettersL ++ [36, 37]) (RdS.one (a := 119) (by decide) (by decide)) (by decide) (Nat.zero_le 0) (by decide) hr (app_str rfl) rfl (fun k0 hl0 hv0 => ?_))⟩)
  refine And.intro ⟨rfl, rfl⟩ (m6.mo (t := [32, 9, 10, 13, 12]) (RdS.one (a := 32) (by decide) (by decide)) (by decide) hl0 (by decide) hr rfl rfl (fun k1 hl1 hv1 => ?_))
  refine And.intro ⟨rfl, rfl⟩ (m6.mo (t := [95, 45, 43, 42, 47, 38, 124, 60, 62, 61]) (RdS.one (a := 95) (by decide) (by decide)) (by decide) hl1 (by decide) hr rfl rfl (fun k2 hl2 hv2 => ?_))
  refine And.intro ⟨rfl, rfl⟩ (m6.mo (t := [46, 44, 59, 58, 63, 33, 35, 64, 126, 94, 39, 96]) (RdS.one (a := 46) (by decide) (by decide)) (by decide) hl2 (by decide) hr rfl rfl (fun k3 hl3 hv3 => ?_))
  refine And.intro (of_decide_eq_true rfl) ?_
  refine And.intro ⟨rfl, rfl⟩ (And.intro (of_decide_eq_true rfl) (m6.mo (t := [40]) (RdS.two (a := 40) (b := 41) (by decide) (by decide) (by decide)) (by decide) hl3 (by decide) hr rfl rfl (fun k4 hl4 hv4 => ?_)))
  refine And.intro ⟨rfl, rfl⟩ (And.intro (of_decide_eq_true rfl) (m6.mo (t := [41]) (RdS.two (a := 41) (b := 40) (by decide) (by decide) (by decide)) (by decide) hl4 (by decide) hr rfl rfl (fun k5 hl5 hv5 => ?_)))
  refine And.intro ⟨rfl, rfl⟩ (And.intro (of_decide_eq_true rfl) (m6.mo (t := [91]) (RdS.two (a := 40) (b := 93) (by decide) (by decide) (by decide)) (by decide) hl5 (by decide) hr rfl rfl (fun k6 hl6 hv6 => ?_)))
  refine And.intro ⟨rfl, rfl⟩ (And.intro (of_decide_eq_true rfl) (m6.mo (t := [93]) (RdS.two (a := 41) (b := 91) (by decide) (by decide) (by decide)) (by decide) hl6 (by decide) hr rfl rfl (fun k7 hl7 hv7 => ?_)))
  refine And.intro ⟨rfl, rfl⟩ (And.intro (of_decide_eq_true rfl) (m6.mo (t := [123]) (RdS.two (a := 40) (b := 125) (by decide) (by decide) (by decide)) (by decide) hl7 (by decide) hr rfl rfl (fun k8 hl8 hv8 => ?_)))
  refine And.intro ⟨rfl, rfl⟩ (And.intro (of_decide_eq_true rfl) (m6.mo (t := [125]) (RdS.two (a := 41) (b := 123) (by decide) (by decide) (by decide)) (by decide) hl8 (by decide) hr rfl rfl (fun k9 hl9 hv9 => ?_)))
  refine And.intro ⟨rfl, rfl⟩ (m6.mo (t := [34]) (RdS.one (a := 34) (by decide) (by decide)) (by decide) hl9 (by decide) hr rfl rfl (fun k10 hl10 hv10 => ?_))
  refine And.intro ⟨rfl, rfl⟩ (m6.mo (t := [92]) (RdS.one (a := 92) (by decide) (by decide)) (by decide) hl10 (by decide) hr rfl rfl (fun k11 hl11 hv11 => ?_))
  refine hk k11 ?_
  intro c ha
  rcases al_cases ha with rfl | rfl | rfl | rfl | rfl | rfl | rfl
  · exact ⟨_, _, (sk_val hv11 rfl).trans ((sk_val hv10 rfl).trans ((sk_val hv9 rfl).trans ((sk_val hv8 rfl).trans ((sk_val hv7 rfl).trans ((sk_val hv6 rfl).trans ((sk_val hv5 rfl).trans ((sk_val hv4 rfl).trans ((sk_val hv3 rfl).trans ((sk_val hv2 rfl).trans ((sk_val hv1 rfl).trans (hit_val hv0 rfl)))))))))))⟩
  · exact ⟨_, _, (sk_val hv11 rfl).trans ((sk_val hv10 rfl).trans ((sk_val hv9 rfl).trans ((sk_val hv8 rfl).trans ((sk_val hv7 rfl).trans ((sk_val hv6 rfl).trans ((sk_val hv5 rfl).trans (hit_val hv4 rfl)))))))⟩
  · exact ⟨_, _, (sk_val hv11 rfl).trans ((sk_val hv10 rfl).trans ((sk_val hv9 rfl).trans ((sk_val hv8 rfl).trans ((sk_val hv7 rfl).trans ((sk_val hv6 rfl).trans (hit_val hv5 rfl))))))⟩
  · exact ⟨_, _, (sk_val hv11 rfl).trans ((sk_val hv10 rfl).trans ((sk_val hv9 rfl).trans ((sk_val hv8 rfl).trans ((sk_val hv7 rfl).trans ((sk_val hv6 rfl).trans ((sk_val hv5 rfl).trans ((sk_val hv4 rfl).trans ((sk_val hv3 rfl).trans ((sk_val hv2 rfl).trans (hit_val hv1 rfl))))))))))⟩
  · exact ⟨_, _, (sk_val hv11 rfl).trans ((sk_val hv10 rfl).trans ((sk_val hv9 rfl).trans ((sk_val hv8 rfl).trans ((sk_val hv7 rfl).trans ((sk_val hv6 rfl).trans ((sk_val hv5 rfl).trans ((sk_val hv4 rfl).trans ((sk_val hv3 rfl).trans ((sk_val hv2 rfl).trans (hit_val hv1 rfl))))))))))⟩
  · exact ⟨_, _, (sk_val hv11 rfl).trans ((sk_val hv10 rfl).trans ((sk_val hv9 rfl).trans ((sk_val hv8 rfl).trans ((sk_val hv7 rfl).trans ((sk_val hv6 rfl).trans ((sk_val hv5 rfl).trans ((sk_val hv4 rfl).trans ((sk_val hv3 rfl).trans ((sk_val hv2 rfl).trans (hit_val hv1 rfl))))))))))⟩
  · exact ⟨_, _, (sk_val hv11 rfl).trans ((sk_val hv10 rfl).trans ((sk_val hv9 rfl).trans ((sk_val hv8 rfl).trans ((sk_val hv7 rfl).trans ((sk_val hv6 rfl).trans ((sk_val hv5 rfl).trans ((sk_val hv4 rfl).trans ((sk_val hv3 rfl).trans ((sk_val hv2 rfl).trans ((sk_val hv1 rfl).trans (hit_val hv0 rfl)))))))))))⟩
end
noncomputable def dkD (xs : List Nat) : List D := xs.map fun x => .int ((x : Nat) : Int)
noncomputable def DeckM (μ : Mem) (a : Addr) : Prop := ∃ xs : List Nat, xs ≠ [] ∧ lookM μ a = some (.lst (dkD xs))
structure Up (a : Addr) (μ μ' : Mem) : Prop where
  d : DeckM μ' a
  o : ∀ b, b ≠ a → lookM μ' b = lookM μ b
theorem Up.trans {a : Addr} {μ μ1 μ2 : Mem} (h : Up a μ μ1) (g : Up a μ1 μ2) : Up a μ μ2 := ⟨g.d, fun b hb => (g.o b hb).trans (h.o b hb)⟩
theorem Up.refl {a : Addr} {μ : Mem} (h : DeckM μ a) : Up a μ μ := ⟨h, fun _ _ => rfl⟩
theorem Up.set {a : Addr} {μ : Mem} {xs ys : List Nat} {l : List D} (h : lookM μ a = some (.lst l)) (hy : ys ≠ []) : Up a μ (setM μ a (.lst (dkD ys))) :=
  ⟨⟨ys, hy, look_setM h⟩, fun b hb => look_setM_ne fun e => hb e.symm⟩
noncomputable def sp_draw (ds : List D) (μ : Mem) (k : KE) : Prop := ∃ a m, ds = [.mref a, .int ((m : Nat) : Int)] ∧ 0 < m ∧ m < 1000000 ∧ DeckM μ a ∧ ∀ x μ', x < m → Up a μ μ' → k (.int ((x : Nat) : Int)) μ'
noncomputable def sp_one (ds : List D) (μ : Mem) (k : KE) : Prop := ∃ a xs, ds = [.mref a, .list xs] ∧ 0 < xs.length ∧ xs.length ≤ 1000 ∧ DeckM μ a ∧ ∀ x μ', x ∈ xs → Up a μ μ' → k x μ'
noncomputable def sp_deck (ds : List D) (μ : Mem) (k : KE) : Prop := ∃ ns : List Int, ds = [.list (ns.map .int)] ∧ ns.length ≤ 63 ∧ ∀ a xs, lookM μ a = none → xs ≠ [] → k (.mref a) ((a, .lst (dkD xs)) :: μ)
section
variable {G GM : Nat → List D → Mem → KE → Prop} {cs : List Nat} {f : Int} {i : Nat} {μ : Mem} {k : KE}
theorem getAt0 (x : D) (xs : List D) : getAt (x :: xs) 0 = some x := rfl
theorem vc_draw {ds} (h : sp_draw ds μ k) : vcSs (Γ0 G GM) ms_law_draw (ds ++ List.replicate 1 .undef) μ (retK k) := by
  obtain ⟨a, m, rfl, hm, hm2, hd, hk⟩ := h
  refine ⟨fun l mm => l = [.mref a, .int ((m : Nat) : Int), .undef] ∧ Up a μ mm, fun _ mm => match lookM mm a with | some (.lst l) => l.length | _ => 0, ⟨rfl, .refl hd⟩, ?_⟩
  rintro l mm ⟨rfl, hu⟩
  obtain ⟨xs, hx, hl⟩ := hu.d
  obtain ⟨x, r, rfl⟩ : ∃ x r, xs = x :: r := by cases xs with | nil => exact absurd rfl hx | cons x r => exact ⟨x, r, rfl⟩
  have el : ((dkD (x :: r)).length : Int) = r.length + 1 := by unfold dkD; rw [List.length_map, List.length_cons]; lia
  have rest : vcSs (Γ0 G GM) (ms_law_draw.drop 1) [.mref a, .int ((m : Nat) : Int), .undef] mm (retK k) := by
    show match lookM mm a with | some (.lst xs) => _ | _ => False
    rw [hl]
    refine And.intro (fun h1 => ?_) (fun h1 => ?_)
    · refine ?_
      show match lookM mm a with | some (.lst xs) => _ | _ => False
      rw [hl]
      refine ⟨_, rfl, (And.intro (show (m : Int) ≠ 0 by (clear el hm2; lia)) ?_)⟩
      show match lookM mm a with | some (.lst xs) => _ | _ => False
      rw [hl]
      refine ⟨_, rfl, (And.intro (show (m : Int) ≠ 0 by (clear el hl hm2; lia)) (And.intro (show (m : Int).natAbs < 1073741824 by (clear h1 el hm; lia)) ?_))⟩
      show match lookM mm a with | some (.lst xs) => _ | some (.dict kvs) => _ | none => False
      rw [hl]
      refine And.intro (Int.le_refl 0) (And.intro (show (0 : Int) < ((dkD (x :: r)).length : Nat) by lia) ?_)
      show k (.int ((x : Int).fmod (m : Int))) (setM mm a (.lst ((dkD (x :: r)).set 0 (.int ((x : Int).fdiv (m : Int))))))
      rw [fmod_nat, fdiv_nat]
      exact hk _ _ (Nat.mod_lt _ hm) (hu.trans (Up.set (xs := x :: r) (ys := x / m :: r) hl (List.cons_ne_nil _ _)))
    · refine ?_
      show match lookM mm a with | some (.lst xs) => _ | _ => False
      rw [hl]
      refine ⟨_, rfl, And.intro (IntMulOk.of_right (intBits_le_64 (by decide) (by decide))) (And.intro (show (2147483647 : Int) ≠ 0 by decide) ?_)⟩
      show match lookM mm a with | some (.lst xs) => _ | some (.dict kvs) => _ | none => False
      rw [hl]
      refine And.intro (Int.le_refl 0) (And.intro (show (0 : Int) < ((dkD (x :: r)).length : Nat) by lia) ?_)
      have e : (((x : Int) * 48271 + 11).fmod 2147483647) = (((x * 48271 + 11) % 2147483647 : Nat) : Int) := by
        rw [← fmod_nat]
        congr 1
      show vcSs (Γ0 G GM) _ [.mref a, .int ((m : Nat) : Int), .undef] (setM mm a (.lst ((dkD (x :: r)).set 0 (.int (((x : Int) * 48271 + 11).fmod 2147483647))))) (retK k)
      rw [e]
      have hu2 : Up a mm (setM mm a (.lst (dkD ((x * 48271 + 11) % 2147483647 :: r)))) := Up.set (xs := x :: r) hl (List.cons_ne_nil _ _)
      show match lookM (setM mm a (.lst (dkD ((x * 48271 + 11) % 2147483647 :: r)))) a with | some (.lst xs) => _ | _ => False
      rw [look_setM hl]
      refine ⟨_, rfl, And.intro (show (64 : Int) ≠ 0 by decide) (And.intro (show (64 : Int).natAbs < 1073741824 by decide) (And.intro (show (m : Int) ≠ 0 by (clear hm2; lia)) ?_))⟩
      show k (.int (((((x * 48271 + 11) % 2147483647 : Nat) : Int).fdiv ((64 : Nat) : Int)).fmod (m : Int))) (setM mm a (.lst (dkD ((x * 48271 + 11) % 2147483647 :: r))))
      rw [fdiv_nat, fmod_nat]
      exact hk _ _ (Nat.mod_lt _ hm) (hu.trans hu2)
  show match lookM mm a with | some (.lst xs) => _ | _ => False
  rw [hl]
  refine And.intro (fun h1 => And.intro (fun h => by cases h) (fun _ => rest)) (fun h1 => ?_)
  have h1 : 0 < r.length := by have h1 : (1 : Int) < ((dkD (x :: r)).length : Nat) := of_decide_eq_true h1; lia
  show match lookM mm a with | some (.lst xs) => _ | _ => False
  rw [hl]
  refine ⟨_, rfl, And.intro (fun h2 => And.intro (fun h => by cases h) (fun _ => rest)) (fun h2 => And.intro (fun _ => ?_) (fun h => by cases h))⟩
  refine And.intro ⟨_, hl⟩ (And.intro rfl ?_)
  show match lookM mm a with | some (.lst (x :: xs)) => _ | _ => False
  rw [hl]
  have hr : r ≠ [] := by intro e; rw [e] at h1; exact absurd h1 (by decide)
  refine ⟨⟨rfl, hu.trans (Up.set (xs := x :: r) hl hr)⟩, ?_⟩
  show (match lookM (setM mm a (.lst (dkD r))) a with | some (.lst l) => l.length | _ => 0) < (match lookM mm a with | some (.lst l) => l.length | _ => 0)
  rw [look_setM hl, hl]
  unfold dkD
  show (r.map _).length < ((x :: r).map _).length
  rw [List.length_map, List.length_map, List.length_cons]; (clear el; lia)
theorem getAt_nat {xs : List D} {n : Nat} {x : D} (h : xs[n]? = some x) : getAt xs ((n : Nat) : Int) = some x := by
  unfold getAt
  rw [if_pos (by lia), Int.toNat_natCast]; exact h
theorem vc_one (c28 : AllSp G 28 sp_draw) {ds} (h : sp_one ds μ k) : vcSs (Γ0 G GM) ms_law_one (ds ++ List.replicate 0 .undef) μ (retK k) := by
  obtain ⟨a, xs, rfl, h0, h1, hd, hk⟩ := h
  have hl : xs.length ≤ sizeLine := by rw [sizeLine_eq]; (clear h0; lia)
  refine And.intro hl (c28 _ _ _ ⟨a, xs.length, rfl, h0, by (clear hl h0; lia), hd, fun x μ' hx hu => And.intro hl ⟨xs[x], ?_, ?_⟩⟩)
  · exact getAt_nat (List.getElem?_eq_getElem hx)
  · exact hk _ _ (List.getElem_mem hx) hu
theorem absD (n : Int) : (if n < 0 then -n else n) = ((n.natAbs : Nat) : Int) := by split <;> lia
theorem vc_deck {ds} (h : sp_deck ds μ k) : vcSs (Γ0 G GM) ms_law_deck_of (ds ++ List.replicate 2 .undef) μ (retK k) := by
  obtain ⟨ns, rfl, hn, hk⟩ := h
  have hl : (ns.map D.int).length ≤ sizeLine := by rw [List.length_map, sizeLine_eq]; lia
  have ep : pick (ns.map D.int) none (some 24) = (ns.take 24).map D.int := by rw [show (24 : Int) = ((24 : Nat) : Int) from rfl, pick_to, List.map_take]
  have powOk : ∀ kk : D → Prop, kk (.int (10 ^ 60)) → binD .pow (.int 10) (.int 60) kk := fun kk h => And.intro (by decide) (And.intro (by decide) (And.intro (by decide) h))
  refine And.intro hl ?_
  rw [ep]
  have hl2 : ((ns.take 24).map D.int).length ≤ sizeLine := by rw [List.length_map, List.length_take, sizeLine_eq]; (clear hl hn; lia)
  refine And.intro hl2 ?_
  have post : ∀ (mx : Nat) (d : D), vcSs (Γ0 G GM) (ms_law_deck_of.drop 2) [.list (ns.map .int), .int ((mx : Nat) : Int), d] μ (retK k) := by
    intro mx d
    refine And.intro hl ?_
    rw [ep]
    refine And.intro hl2 ?_
    have comp : ∀ (l : List Int) (acc : List Nat), acc.length + l.length ≤ 100 → compGo (fun x μ k => vcAnd (Γ0 G GM) [.cmp .ge (.bi .abs [.var 3]) (.bin .pow (.int 10) (.int 9))] ([.list (ns.map .int), .int ((mx : Nat) : Int), d] ++ [x]) μ k)
        (fun x μ k => vcE (Γ0 G GM) (.bin .mod (.bi .abs [.var 3]) (.bin .pow (.int 10) (.int 60))) ([.list (ns.map .int), .int ((mx : Nat) : Int), d] ++ [x]) μ k) (l.map .int) (dkD acc) μ
        (fun ys μ2 => vcE (Γ0 G GM) (.list [.var 1]) [.list (ns.map .int), .int ((mx : Nat) : Int), d] μ2 fun y μ2 => match D.list ys, y with
          | .list x, .list y => x.length + y.length ≤ sizeLine ∧ ∀ a, lookM μ2 a = Option.none → retK k (.ret (.mref a)) [.list (ns.map .int), .int ((mx : Nat) : Int), d] ((a, .lst (x ++ y)) :: μ2)
          | _, _ => False) := by
      intro l
      induction l with
      | nil =>
        intro acc hacc
        refine And.intro ?_ fun a ha => ?_
        · show (dkD acc).length + 1 ≤ sizeLine
          unfold dkD
          rw [List.length_map, sizeLine_eq]; rw [List.length_nil] at hacc; (clear hl2 hl hn; lia)
        · have := hk a (acc ++ [mx]) ha (by simp)
          unfold dkD at this ⊢
          rw [List.map_append] at this
          exact this
      | cons z l ih =>
        intro acc hacc
        rw [List.length_cons] at hacc
        refine And.intro (show (0 : Int) ≤ 9 by decide) (And.intro (show (9 : Int) ≤ 1000000 by decide) (And.intro (show (10 : Int).natAbs < 2 ^ 64 by decide) (And.intro (fun h => ⟨_, rfl, fun h => (by cases h), fun _ => ih acc (by (clear hl2 hl hn; lia))⟩) (fun h => ⟨_, rfl, fun _ => ?_, fun h => (by cases h)⟩))))
        refine And.intro (show (0 : Int) ≤ 60 by decide) (And.intro (show (60 : Int) ≤ 1000000 by decide) (And.intro (show (10 : Int).natAbs < 2 ^ 64 by decide) (And.intro (show (10 : Int) ^ 60 ≠ 0 by decide) ?_)))
        have := ih (acc ++ [z.natAbs % 10 ^ 60]) (by rw [List.length_append]; show acc.length + 1 + l.length ≤ 100; (clear hl2 hl hn; lia))
        unfold dkD at this ⊢
        rw [List.map_append] at this
        have e : (if z < 0 then -z else z).fmod ((10 : Int) ^ 60) = ((z.natAbs % 10 ^ 60 : Nat) : Int) := by
          rw [absD, ← fmod_nat]; rfl
        show compGo _ _ _ (acc.map _ ++ [D.int ((if z < 0 then -z else z).fmod ((10 : Int) ^ 60))]) _ _
        rw [e]; exact this
    exact comp (ns.take 24) [] (by rw [List.length_take]; show 0 + _ ≤ _; (clear hl2 hl hn; lia))
  have go : ∀ (l : List Int) (mx : Nat) (d : D), forGo [2] (fun l m k => vcSs (Γ0 G GM) [.set 1 (.bin .mod (.bin .add (.bin .add (.bin .mul (.var 1) (.int 31)) (.bin .mod (.bi .abs [.var 2]) (.bin .pow (.int 10) (.int 60)))) (.int 3)) (.int 2147483647))] l m k) (l.map .int) [.list (ns.map .int), .int ((mx : Nat) : Int), d] μ
        (fun o l μ1 => match o with | .next => vcSs (Γ0 G GM) (ms_law_deck_of.drop 2) l μ1 (retK k) | .ret v => retK k (.ret v) l μ1) := by
    intro l
    induction l with
    | nil => intro mx d; exact post mx d
    | cons z l ih =>
      intro mx d
      refine And.intro (IntMulOk.of_right (intBits_le_64 (by decide) (by decide))) (And.intro (show (0 : Int) ≤ 60 by decide) (And.intro (show (60 : Int) ≤ 1000000 by decide) (And.intro (show (10 : Int).natAbs < 2 ^ 64 by decide) (And.intro (show (10 : Int) ^ 60 ≠ 0 by decide) (And.intro (show (2147483647 : Int) ≠ 0 by decide) ?_)))))
      have := ih ((mx * 31 + z.natAbs % 10 ^ 60 + 3) % 2147483647) (.int z)
      have e : ((mx : Int) * 31 + (if z < 0 then -z else z).fmod ((10 : Int) ^ 60) + 3).fmod 2147483647 = (((mx * 31 + z.natAbs % 10 ^ 60 + 3) % 2147483647 : Nat) : Int) := by
        have e1 : (if z < 0 then -z else z).fmod ((10 : Int) ^ 60) = ((z.natAbs % 10 ^ 60 : Nat) : Int) := by
          rw [absD, ← fmod_nat]; rfl
        rw [e1]
        exact fmod_nat (mx * 31 + z.natAbs % 10 ^ 60 + 3) 2147483647
      show forGo _ _ _ [.list (ns.map .int), .int (((mx : Int) * 31 + (if z < 0 then -z else z).fmod ((10 : Int) ^ 60) + 3).fmod 2147483647), .int z] μ _
      rw [e]; exact this
  exact go (ns.take 24) 7 .undef
end
theorem comp_fm {α : Type} {elt cond : D → Mem → KE → Prop} (inj g : α → D) (p : α → Bool) {μ : Mem} {kk : List D → Mem → Prop} : ∀ (l : List α) (acc : List D),
    (∀ x ∈ l, ∀ k' : KE, k' (.bool (p x)) μ → cond (inj x) μ k') → (∀ x ∈ l, ∀ k' : KE, k' (g x) μ → elt (inj x) μ k') → kk (acc ++ (l.filter p).map g) μ → compGo cond elt (l.map inj) acc μ kk
  | [], acc, hc, he, h => by
    rw [List.filter_nil, List.map_nil, List.append_nil] at h; exact h
  | x :: l, acc, hc, he, h => by
    rw [List.map_cons]
    refine hc x (.head _) _ ⟨p x, rfl, fun q => ?_, fun q => ?_⟩
    · refine he x (.head _) _ (comp_fm inj g p l _ (fun y hy => hc y (.tail _ hy)) (fun y hy => he y (.tail _ hy)) ?_)
      rw [List.filter_cons, if_pos q, List.map_cons] at h
      rw [List.append_assoc]; exact h
    · refine comp_fm inj g p l _ (fun y hy => hc y (.tail _ hy)) (fun y hy => he y (.tail _ hy)) ?_
      rw [List.filter_cons, if_neg (by rw [q]; exact Bool.false_ne_true)] at h
      exact h
theorem comp_map {α : Type} {elt cond : D → Mem → KE → Prop} (inj g : α → D) {μ : Mem} {kk : List D → Mem → Prop} (l : List α)
    (hc : ∀ x ∈ l, ∀ k' : KE, k' (.bool true) μ → cond (inj x) μ k') (he : ∀ x ∈ l, ∀ k' : KE, k' (g x) μ → elt (inj x) μ k') (h : kk (l.map g) μ) : compGo cond elt (l.map inj) [] μ kk :=
  comp_fm inj g (fun _ => true) l [] hc he (by rw [List.filter_eq_self.mpr (fun _ _ => rfl)]; exact h)
noncomputable abbrev Ed := Nat × Nat × List Nat
noncomputable def edD (f : Int) (e : Ed) : D := .tup [.int (f + ((e.1 : Nat) : Int)), .int (f + ((e.2.1 : Nat) : Int)), .list (e.2.2.map fun c => .int ((c : Nat) : Int))]
noncomputable def apE (t : List Nat) (e : Ed) : List Nat := t.take e.1 ++ e.2.2 ++ t.drop e.2.1
noncomputable def EdsOk : List Nat → List Ed → Prop
  | _, [] => True
  | t, e :: es => e.1 ≤ t.length ∧ e.2.1 ≤ t.length ∧ t.length ≤ 2000 ∧ e.2.2.length ≤ 2000 ∧ (∀ c ∈ e.2.2, c < 1114112) ∧ EdsOk (apE t e) es
noncomputable def sp_done (ds : List D) (μ : Mem) (k : KE) : Prop := ∃ t f es, ds = [.str (S8 t), .list (es.map (edD f)), .int f] ∧ es.length ≤ 2000 ∧ EdsOk t es ∧ k (.str (S8 (es.foldl apE t))) μ
noncomputable def sp_blank (ds : List D) (μ : Mem) (k : KE) : Prop := ∃ l : List Nat, ds = [.str (S8 l)] ∧ l.length ≤ 4000 ∧ k (.bool (l.all isB)) μ
noncomputable def sp_around (ds : List D) (μ : Mem) (k : KE) : Prop := ∃ (t : List Nat) (o : Nat), ds = [.str (S8 t), .int ((o : Nat) : Int)] ∧ o ≤ t.length ∧ t.length ≤ 2000 ∧ k (.tup [.str (S8 (rst (t.take o))), .str (S8 (lst (t.drop o)))]) μ
theorem joinL_one : ∀ l : List Nat, joinL [] (l.map fun c => [c]) = l
  | [] => rfl
  | [a] => rfl
  | a :: b :: r => by
    show [a] ++ [] ++ joinL [] ((b :: r).map fun c => [c]) = _
    rw [joinL_one (b :: r)]; rfl
theorem dropW_all : ∀ l : List Nat, l.dropWhile isB = [] ↔ l.all isB = true
  | [] => by simp
  | a :: r => by
    rw [List.dropWhile_cons, List.all_cons]
    cases isB a with
    | true => rw [if_pos rfl, Bool.true_and]; exact dropW_all r
    | false => rw [if_neg Bool.false_ne_true]; simp
theorem dropW_head : ∀ (l : List Nat) (a : Nat) (r : List Nat), l.dropWhile isB = a :: r → isB a = false
  | [], a, r, h => by cases h
  | x :: l, a, r, h => by
    rw [List.dropWhile_cons] at h
    cases q : isB x with
    | true => rw [q, if_pos rfl] at h; exact dropW_head l a r h
    | false => rw [q, if_neg Bool.false_ne_true] at h; cases h; exact q
theorem strip_nil (l : List Nat) : rst (lst l) = [] ↔ l.all isB = true := by
  rw [← dropW_all]
  unfold rst lst
  constructor
  · intro h
    rw [List.reverse_eq_nil_iff] at h
    cases q : l.dropWhile isB with
    | nil => rfl
    | cons a r =>
      have hb := dropW_head l a r q
      rw [q, dropW_all, List.reverse_cons, List.all_append, Bool.and_eq_true] at h
      have := h.2
      simp [hb] at this
  · intro h; rw [h]; rfl
theorem lst_len (l : List Nat) : (lst l).length ≤ l.length := (List.dropWhile_sublist _).length_le
theorem rst_len (l : List Nat) : (rst l).length ≤ l.length := by
  unfold rst
  rw [List.length_reverse]
  have := (List.dropWhile_sublist (l := l.reverse) isB).length_le
  rw [List.length_reverse] at this; exact this
section
variable {G GM : Nat → List D → Mem → KE → Prop} {cs : List Nat} {f : Int} {i : Nat} {μ : Mem} {k : KE}
theorem S8_le {l : List Nat} {n : Nat} (h : l.length ≤ n) (hn : n ≤ 16777216) : (S8 l).length ≤ sizeLine := by rw [S8_len, sizeLine_eq]; lia
theorem S8_add {a b : List Nat} {n : Nat} (h : a.length + b.length ≤ n) (hn : n ≤ 16777216) : (S8 a).length + (S8 b).length ≤ sizeLine := by rw [S8_len, S8_len, sizeLine_eq]; lia
theorem apE_len (t : List Nat) (e : Ed) : (apE t e).length ≤ t.length + e.2.2.length + t.length := by
  unfold apE
  rw [List.length_append, List.length_append, List.length_take, List.length_drop]; lia
theorem vc_done {ds} (h : sp_done ds μ k) : vcSs (Γ0 G GM) ms_law_done (ds ++ List.replicate 3 .undef) μ (retK k) := by
  obtain ⟨t, f, es, rfl, hn, hok, hk⟩ := h
  refine And.intro (by show (es.map _).length ≤ _; rw [List.length_map, sizeLine_eq]; lia) ?_
  have go : ∀ (l : List Ed) (t : List Nat) (d1 d2 d3 : D), EdsOk t l → k (.str (S8 (l.foldl apE t))) μ →
      forGo [3, 4, 5] (fun l m k => vcSs (Γ0 G GM) [.set 0 (.bin .add (.bin .add (.slc (.var 0) [] [.bin .sub (.var 3) (.var 2)]) (.meth .join (.str ⟨#[]⟩) [.comp (.bi .chr [.var 6]) (.var 5) []])) (.slc (.var 0) [.bin .sub (.var 4) (.var 2)] []))] l m k)
        (l.map (edD f)) [.str (S8 t), .list (es.map (edD f)), .int f, d1, d2, d3] μ (fun o l μ1 => match o with | .next => vcSs (Γ0 G GM) [.ret (.var 0)] l μ1 (retK k) | .ret v => retK k (.ret v) l μ1) := by
    intro l
    induction l with
    | nil => intro t d1 d2 d3 _ hk; exact hk
    | cons e l ih =>
      intro t d1 d2 d3 hok hk
      obtain ⟨a, b, ins⟩ := e
      obtain ⟨ha, hb, hl, hi, hc, hr⟩ := hok
      have ha : a ≤ t.length := ha
      have hb : b ≤ t.length := hb
      have hi : ins.length ≤ 2000 := hi
      have ea : f + (a : Int) - f = (a : Nat) := by (clear hi hb hn; lia)
      have eb : f + (b : Int) - f = (b : Nat) := by (clear hi hb hn; lia)
      have hle := S8_le hl (by decide)
      refine And.intro hle ?_
      rw [ea, slice_to t ha]
      refine And.intro trivial (And.intro (by show (ins.map _).length ≤ _; rw [List.length_map, sizeLine_eq]; (clear hle hb hn; lia)) ?_)
      refine comp_map (fun c : Nat => D.int ((c : Nat) : Int)) (fun c => D.str (S8 [c])) ins (fun x hx k' h => h) (fun x hx k' h => And.intro (show (0 : Int) ≤ (x : Int) by (clear hle hi hn; lia)) (And.intro (show (x : Int) < 1114112 by have := hc x hx; (clear hle hi hn; lia)) h)) ?_
      refine ⟨ins.map fun c => S8 [c], by rw [List.map_map]; rfl, ?_, ?_⟩
      · show JoinOk (S8 []) _ = true
        rw [show (ins.map fun c => S8 [c]) = (ins.map fun c => [c]).map S8 by rw [List.map_map]; rfl]
        refine joinOk_S8 (B := 1) (fun a ha => ?_) ?_
        · obtain ⟨c, _, rfl⟩ := List.mem_map.mp ha; exact Nat.le_refl _
        · rw [List.length_map]; show ins.length * 1 + ins.length * 0 ≤ _; (clear hle hb hn; lia)
      · have ej : Txt.join ⟨#[]⟩ (ins.map fun c => S8 [c]) = S8 ins := by
          rw [show (ins.map fun c => S8 [c]) = (ins.map fun c => [c]).map S8 by rw [List.map_map]; rfl]
          show Txt.join (S8 []) _ = _
          rw [join_S8, joinL_one]
        rw [ej]
        refine And.intro (S8_add (n := 4000) (by rw [List.length_take]; (clear hle hb hn; lia)) (by decide)) ?_
        rw [S8_app]
        refine And.intro hle ?_
        rw [eb, slice_from t hb]
        refine And.intro (S8_add (n := 8000) (by rw [List.length_append, List.length_take, List.length_drop]; (clear hle hn; lia)) (by decide)) ?_
        rw [S8_app]
        exact ih (apE t (a, b, ins)) _ _ _ hr hk
  exact go es t .undef .undef .undef hok hk
theorem vc_blank {ds} (h : sp_blank ds μ k) : vcSs (Γ0 G GM) ms_law_blank (ds ++ List.replicate 0 .undef) μ (retK k) := by
  obtain ⟨l, rfl, hl, hk⟩ := h
  refine And.intro trivial (And.intro (S8_le hl (by decide)) ?_)
  show k (.bool (Txt.stripChars (S8 l) (S8 [32, 9]) == S8 [])) μ
  rw [strip_S8, S8_beq]
  have : decide (rst (lst l) = []) = l.all isB := by
    rw [Bool.eq_iff_iff, decide_eq_true_iff]; exact strip_nil l
  rw [this]; exact hk
theorem vc_around {ds} (h : sp_around ds μ k) : vcSs (Γ0 G GM) ms_law_around (ds ++ List.replicate 0 .undef) μ (retK k) := by
  obtain ⟨t, o, rfl, ho, hl, hk⟩ := h
  have hle := S8_le hl (by decide)
  refine And.intro hle ?_
  rw [slice_to t ho]
  refine And.intro trivial (And.intro (S8_le (n := 2000) (by rw [List.length_take]; (clear hle ho; lia)) (by decide)) ?_)
  show vcEs (Γ0 G GM) _ _ _ _
  refine And.intro hle ?_
  rw [slice_from t ho]
  refine And.intro trivial (And.intro (S8_le (n := 2000) (by rw [List.length_drop]; (clear hle; lia)) (by decide)) ?_)
  show k (.tup [.str (Txt.rstripChars (S8 (t.take o)) (S8 [32, 9])), .str (Txt.lstripChars (S8 (t.drop o)) (S8 [32, 9]))]) μ
  rw [rstrip_S8, lstrip_S8]; exact hk
end
noncomputable abbrev LS (ls : List (List Nat)) : List D := ls.map fun l => D.str (S8 l)
theorem split_LS (t : List Nat) : (Txt.split (S8 t) (S8 [10])).map D.str = LS (splitNL t) := by
  rw [split_S8, List.map_map]; rfl
theorem parts_le {t : List Nat} {n : Nat} (h : t.length ≤ n) (hn : n ≤ 1000000) : (Builtin.Str.partsBetween (S8 t) (Builtin.Str.occurrences (S8 t) (S8 [10]) 0 (S8 t).length ((S8 t).length + 1)) (S8 [10]).length).length ≤ sizeLine := by
  have := StrLaws.occ_length_le (S8 t) (S8 [10]) 0 (S8 t).length ((S8 t).length + 1)
  unfold Builtin.Str.partsBetween
  rw [List.length_map, List.length_zip, List.length_cons, List.length_map, List.length_append]
  rw [S8_len] at this
  rw [sizeLine_eq]
  rw [S8_len]
  show min _ (_ + 1) ≤ _
  lia
theorem LS_get {ls : List (List Nat)} {n : Nat} {l : List Nat} (h : ls[n]? = some l) : getAt (LS ls) ((n : Nat) : Int) = some (.str (S8 l)) :=
  getAt_nat (by rw [List.getElem?_map, h]; rfl)
theorem LS_le {ls : List (List Nat)} {n : Nat} (h : ls.length ≤ n) (hn : n ≤ 1000000) : (LS ls).length ≤ sizeLine := by rw [List.length_map, sizeLine_eq]; lia
noncomputable def catL (A : List (List Nat)) : List Nat := A.flatMap fun a => a ++ [10]
noncomputable def tacL (B : List (List Nat)) : List Nat := B.flatMap fun a => 10 :: a
theorem joinL_zip : ∀ (A : List (List Nat)) (x : List Nat) (B : List (List Nat)), joinL [10] (A ++ x :: B) = catL A ++ x ++ tacL B
  | [], x, [] => by show x = [] ++ x ++ []; simp
  | [], x, b :: B => by
    show x ++ [10] ++ joinL [10] ([] ++ b :: B) = _
    rw [joinL_zip [] b B]
    show x ++ [10] ++ ([] ++ b ++ tacL B) = [] ++ x ++ ((10 :: b) ++ tacL B)
    simp
  | [a], x, B => by
    show a ++ [10] ++ joinL [10] ([] ++ x :: B) = _
    rw [joinL_zip [] x B]
    show a ++ [10] ++ ([] ++ x ++ tacL B) = ((a ++ [10]) ++ []) ++ x ++ tacL B
    simp
  | a :: b :: A, x, B => by
    show a ++ [10] ++ joinL [10] ((b :: A) ++ x :: B) = _
    rw [joinL_zip (b :: A) x B]
    show _ = (a ++ [10] ++ catL (b :: A)) ++ x ++ tacL B
    simp [List.append_assoc]
structure Zp (t : List Nat) (A : List (List Nat)) (x : List Nat) (B : List (List Nat)) (n : Nat) : Prop where
  e : t = catL A ++ x ++ tacL B
  fr : ∀ a ∈ A ++ x :: B, 10 ∉ a
  nn : t.length ≤ n
  n2 : n ≤ 1000
  ch : ∀ c ∈ t, c < 1114112
theorem catL_len : ∀ A : List (List Nat), A.length ≤ (catL A).length ∧ ∀ a ∈ A, a.length ≤ (catL A).length
  | [] => ⟨Nat.le_refl _, fun _ h => by cases h⟩
  | a :: A => by
    have := catL_len A
    have e : (catL (a :: A)).length = a.length + 1 + (catL A).length := by
      show ((a ++ [10]) ++ catL A).length = _
      simp; (clear this; lia)
    refine ⟨by rw [e, List.length_cons]; (clear e; lia), fun b hb => ?_⟩
    rcases List.mem_cons.mp hb with rfl | hb
    · (clear this; lia)
    · have := this.2 b hb; lia
theorem tacL_len : ∀ A : List (List Nat), A.length ≤ (tacL A).length ∧ ∀ a ∈ A, a.length ≤ (tacL A).length
  | [] => ⟨Nat.le_refl _, fun _ h => by cases h⟩
  | a :: A => by
    have := tacL_len A
    have e : (tacL (a :: A)).length = a.length + 1 + (tacL A).length := by
      show ((10 :: a) ++ tacL A).length = _
      simp; (clear this; lia)
    refine ⟨by rw [e, List.length_cons]; (clear e; lia), fun b hb => ?_⟩
    rcases List.mem_cons.mp hb with rfl | hb
    · (clear this; lia)
    · have := this.2 b hb; lia
section
variable {t : List Nat} {A : List (List Nat)} {x : List Nat} {B : List (List Nat)} {n : Nat}
theorem Zp.sp (z : Zp t A x B n) : splitNL t = A ++ x :: B := by
  rw [z.e, ← joinL_zip]; exact splitNL_join _ (by simp) z.fr
theorem Zp.len (z : Zp t A x B n) : A.length + B.length ≤ n ∧ (∀ a ∈ A ++ x :: B, a.length ≤ n) := by
  have h := z.nn
  rw [z.e, List.length_append, List.length_append] at h
  have h1 := catL_len A
  have h2 := tacL_len B
  refine ⟨by lia, fun a ha => ?_⟩
  rcases List.mem_append.mp ha with ha | ha
  · have := h1.2 a ha; (clear h2 h1; lia)
  · rcases List.mem_cons.mp ha with rfl | ha
    · (clear h2 h1; lia)
    · have := h2.2 a ha; (clear h2 h1; lia)
theorem Zp.chars (z : Zp t A x B n) : ∀ a ∈ A ++ x :: B, ∀ c ∈ a, c < 1114112 := by
  intro a ha c hc
  refine z.ch c ?_
  rw [z.e]
  rcases List.mem_append.mp ha with ha | ha
  · refine List.mem_append_left _ (List.mem_append_left _ (List.mem_flatMap.mpr ⟨a, ha, List.mem_append_left _ hc⟩))
  · rcases List.mem_cons.mp ha with rfl | ha
    · exact List.mem_append_left _ (List.mem_append_right _ hc)
    · exact List.mem_append_right _ (List.mem_flatMap.mpr ⟨a, ha, List.mem_cons_of_mem _ hc⟩)
end
noncomputable def spc (l r : List Nat) : List Nat := if l = [] ∨ r = [] ∨ r.head? = some 41 ∨ l.getLast? = some 40 ∨ l.getLast? = some 39 then [] else [32]
noncomputable def jnZ (A : List (List Nat)) (x : List Nat) (B : List (List Nat)) : List Nat := match A.getLast? with
  | none => catL A ++ x ++ tacL B
  | some y => catL A.dropLast ++ (rst y ++ spc (rst y) (lst x) ++ lst x) ++ tacL B
noncomputable def sp_joined (ds : List D) (μ : Mem) (k : KE) : Prop := ∃ t A x B o n, ds = [.str (S8 t), .int ((o : Nat) : Int)] ∧ Zp t A x B n ∧ o ≤ t.length ∧ (t.take o).count 10 = A.length ∧ k (.str (S8 (jnZ A x B))) μ
section
variable {G GM : Nat → List D → Mem → KE → Prop} {cs : List Nat} {f : Int} {i : Nat} {μ : Mem} {k : KE}
theorem get_mid {α : Type} (A : List α) (x : α) (B : List α) : (A ++ x :: B)[A.length]? = some x := by
  rw [List.getElem?_append_right (Nat.le_refl _), Nat.sub_self]; rfl
theorem vc_joined {ds} (h : sp_joined ds μ k) : vcSs (Γ0 G GM) ms_law_joined (ds ++ List.replicate 5 .undef) μ (retK k) := by
  obtain ⟨t, A, x, B, o, n, rfl, z, ho, hc, hk⟩ := h
  have hle : (S8 t).length ≤ sizeLine := S8_le (n := 1000) (Nat.le_trans z.nn z.n2) (by decide)
  refine And.intro hle ?_
  rw [slice_to t ho]
  refine And.intro trivial ?_
  show vcSs (Γ0 G GM) _ [.str (S8 t), .int (o : Nat), .int (Txt.count (S8 (t.take o)) (S8 [10])), .undef, .undef, .undef, .undef] μ (retK k)
  rw [count_S8, hc]
  refine And.intro trivial (And.intro rfl (And.intro hle (And.intro (parts_le (Nat.le_trans z.nn z.n2) (by decide)) ?_)))
  show vcSs (Γ0 G GM) _ [.str (S8 t), .int (o : Nat), .int (A.length : Nat), .list ((Txt.split (S8 t) (S8 [10])).map D.str), .undef, .undef, .undef] μ (retK k)
  rw [split_LS, z.sp]
  have hL := z.len
  have hn2 := z.n2
  have hLS : (LS (A ++ x :: B)).length ≤ sizeLine := LS_le (n := 2000) (by rw [List.length_append, List.length_cons]; (clear hle hc ho; lia)) (by decide)
  unfold jnZ at hk
  refine And.intro (fun h => ?_) (fun h => ?_)
  · have h : A = [] := by
      have := eq_of_beq h
      exact List.eq_nil_of_length_eq_zero (by (clear hLS hL hle hc ho; lia))
    subst h
    have : k (.str (S8 (catL [] ++ x ++ tacL B))) μ := hk
    rw [← z.e] at this; exact this
  · have h0 : A ≠ [] := by
      intro e
      subst e
      cases h
    obtain ⟨A0, y, rfl⟩ : ∃ A0 y, A = A0 ++ [y] := ⟨A.dropLast, A.getLast h0, (List.dropLast_concat_getLast h0).symm⟩
    rw [List.getLast?_append] at hk
    have hk : k (.str (S8 (catL (A0 ++ [y]).dropLast ++ (rst y ++ spc (rst y) (lst x) ++ lst x) ++ tacL B))) μ := hk
    rw [List.dropLast_concat] at hk
    have el : ((A0 ++ [y]).length : Int) - 1 = (A0.length : Nat) := by rw [List.length_append]; show ((A0.length + 1 : Nat) : Int) - 1 = _; (clear hLS hL hc hn2 hle ho; lia)
    have g1 : (A0 ++ [y] ++ x :: B)[A0.length]? = some y := by rw [List.append_assoc]; exact get_mid A0 y (x :: B)
    have ly : y.length ≤ 1000 := Nat.le_trans (hL.2 y (by simp)) hn2
    have lx : x.length ≤ 1000 := Nat.le_trans (hL.2 x (by simp)) hn2
    have lry := rst_len y
    have llx := lst_len x
    refine And.intro hLS ⟨.str (S8 y), by rw [el]; exact LS_get g1, And.intro trivial (And.intro (S8_le ly (by decide)) ?_)⟩
    refine And.intro hLS ⟨.str (S8 x), LS_get (get_mid _ x B), And.intro trivial (And.intro (S8_le lx (by decide)) ?_)⟩
    show vcSs (Γ0 G GM) _ [.str (S8 t), .int (o : Nat), .int ((A0 ++ [y]).length : Nat), .list (LS (A0 ++ [y] ++ x :: B)), .str (Txt.rstripChars (S8 y) (S8 [32, 9])), .str (Txt.lstripChars (S8 x) (S8 [32, 9])), .undef] μ (retK k)
    rw [rstrip_S8, lstrip_S8]
    have fin : ∀ s : List Nat, s.length ≤ 1 → spc (rst y) (lst x) = s → vcSs (Γ0 G GM) (ms_law_joined.drop 5) [.str (S8 t), .int (o : Nat), .int ((A0 ++ [y]).length : Nat), .list (LS (A0 ++ [y] ++ x :: B)), .str (S8 (rst y)), .str (S8 (lst x)), .str (S8 s)] μ (retK k) := by
      intro s hs hsp
      have e1 : pick (LS (A0 ++ [y] ++ x :: B)) none (some (((A0 ++ [y]).length : Nat) - 1 : Int)) = LS A0 := by
        rw [el, pick_to, ← List.map_take, List.append_assoc, List.take_left]
      have e2 : pick (LS (A0 ++ [y] ++ x :: B)) (some (((A0 ++ [y]).length : Nat) + 1 : Int)) none = LS B := by
        rw [show (((A0 ++ [y]).length : Nat) + 1 : Int) = (((A0 ++ [y]).length + 1 : Nat) : Int) by (clear hs hLS hL hc hn2 hle ho; lia), pick_from _ (by rw [List.length_map, List.length_append (as := A0 ++ [y]) (bs := x :: B), List.length_cons]; (clear hs el hLS hc hle ho; lia)), ← List.map_drop]
        congr 1
        rw [show A0 ++ [y] ++ x :: B = (A0 ++ [y] ++ [x]) ++ B by simp]
        exact List.drop_left' (by simp)
      refine And.intro trivial (And.intro hLS ?_)
      rw [e1]
      refine And.intro (S8_add (n := 2000) (by (clear llx lx el hLS hL hc hn2 hle ho; lia)) (by decide)) ?_
      rw [S8_app]
      refine And.intro (S8_add (n := 3000) (by rw [List.length_append]; (clear el hLS hL hc hn2 hle ho; lia)) (by decide)) ?_
      rw [S8_app]
      refine And.intro (by rw [List.length_map, sizeLine_eq]; rw [List.length_append] at hL; show A0.length + 1 ≤ _; (clear hs hLS hle ho; lia)) ?_
      refine And.intro hLS ?_
      rw [e2]
      have e3 : LS A0 ++ [D.str (S8 (rst y ++ s ++ lst x))] ++ LS B = ((A0 ++ (rst y ++ s ++ lst x) :: B).map S8).map D.str := by
        rw [List.map_map]
        unfold LS
        rw [List.map_append, List.map_cons]; simp; rfl
      have hA := hL.1
      rw [List.length_append] at hA
      have hA : A0.length + 1 + B.length ≤ n := hA
      refine And.intro (by rw [List.length_append, List.length_map, List.length_map, sizeLine_eq]; show A0.length + 1 + B.length ≤ _; (clear hs el hLS hc hle ho; lia)) ⟨_, e3, ?_, ?_⟩
      · refine joinOk_S8 (sep := [10]) (B := 3000) (fun a ha => ?_) ?_
        · rcases List.mem_append.mp ha with ha | ha
          · have := hL.2 a (by simp [ha]); (clear hs llx lry lx ly hLS hc hle ho; lia)
          · rcases List.mem_cons.mp ha with rfl | ha
            · rw [List.length_append, List.length_append]; lia
            · have := hL.2 a (by simp [ha]); (clear hs llx lry lx ly hLS hc hle ho; lia)
        · rw [List.length_append, List.length_cons]; show _ * 3000 + _ * 1 ≤ _; (clear hs el hLS hc hle ho; lia)
      · show k (.str (Txt.join (S8 [10]) _)) μ
        rw [join_S8, joinL_zip]
        rw [hsp] at hk; exact hk
    show ((S8 (rst y) == S8 []) = true → _) ∧ ((S8 (rst y) == S8 []) = false → _)
    rw [S8_beq]
    refine And.intro (fun h1 => And.intro (fun _ => fin [] (Nat.zero_le _) ?_) (fun h => by cases h)) (fun h1 => ?_)
    · unfold spc; rw [if_pos (.inl (of_decide_eq_true h1))]
    have h1 := of_decide_eq_false h1
    show ((S8 (lst x) == S8 []) = true → _) ∧ ((S8 (lst x) == S8 []) = false → _)
    rw [S8_beq]
    refine And.intro (fun h2 => And.intro (fun _ => fin [] (Nat.zero_le _) ?_) (fun h => by cases h)) (fun h2 => ?_)
    · unfold spc; rw [if_pos (.inr (.inl (of_decide_eq_true h2)))]
    have h2 := of_decide_eq_false h2
    obtain ⟨c, r, hx⟩ : ∃ c r, lst x = c :: r := by cases q : lst x with | nil => exact absurd q h2 | cons c r => exact ⟨c, r, rfl⟩
    obtain ⟨l, d, hy⟩ : ∃ l d, rst y = l ++ [d] := ⟨(rst y).dropLast, (rst y).getLast h1, (List.dropLast_concat_getLast h1).symm⟩
    refine And.intro (S8_le (n := 1000) (by (clear lry ly el hLS hL hc hn2 hle ho; lia)) (by decide)) (And.intro (show -((S8 (lst x)).length : Int) ≤ 0 by (clear llx lry lx ly el hLS hL hc hn2 hle ho; lia)) (And.intro (show (0 : Int) < ((S8 (lst x)).length : Int) by rw [S8_len, hx, List.length_cons]; (clear llx lry lx ly el hLS hL hc hn2 hle ho; lia)) ?_))
    rw [show Txt.item (S8 (lst x)) 0 = S8 [c] by rw [hx]; exact it0 c r]
    show ((S8 [c] == S8 [41]) = true → _) ∧ ((S8 [c] == S8 [41]) = false → _)
    rw [S8_beq]
    refine And.intro (fun h3 => And.intro (fun _ => fin [] (Nat.zero_le _) ?_) (fun h => by cases h)) (fun h3 => ?_)
    · have h3 := of_decide_eq_true h3
      unfold spc; rw [if_pos (.inr (.inr (.inl (by rw [hx]; cases h3; rfl))))]
    have h3 := of_decide_eq_false h3
    refine And.intro (S8_le (n := 1000) (by (clear lx el hLS hL hc hn2 hle ho; lia)) (by decide)) (And.intro (show -((S8 (rst y)).length : Int) ≤ -1 by rw [S8_len, hy, List.length_append]; show -((l.length + 1 : Nat) : Int) ≤ _; (clear llx lry lx ly el hLS hL hc hn2 hle ho; lia)) (And.intro (show (-1 : Int) < ((S8 (rst y)).length : Int) by (clear llx lry lx ly el hLS hL hc hn2 hle ho; lia)) ?_))
    rw [show Txt.item (S8 (rst y)) (-1) = S8 [d] by rw [hy]; exact item_last l d]
    show ((Txt.contains (S8 [40, 39]) (S8 [d]) != false) = true → _) ∧ ((Txt.contains (S8 [40, 39]) (S8 [d]) != false) = false → _)
    rw [contains_one, Bool.bne_false]
    refine And.intro (fun h4 => And.intro (fun _ => fin [] (Nat.zero_le _) ?_) (fun h => by cases h)) (fun h4 => And.intro (fun h => by cases h) (fun _ => fin [32] (Nat.le_refl _) ?_))
    · have h4 := of_decide_eq_true h4
      unfold spc
      refine if_pos (.inr (.inr (.inr ?_)))
      rw [hy, List.getLast?_append]
      simp at h4
      rcases h4 with rfl | rfl
      · exact .inl rfl
      · exact .inr rfl
    · have h4 := of_decide_eq_false h4
      unfold spc
      refine if_neg ?_
      rintro (h | h | h | h | h)
      · exact h1 h
      · exact h2 h
      · rw [hx] at h; exact h3 (by cases h; rfl)
      · rw [hy, List.getLast?_append] at h; simp at h; exact h4 (by rw [h]; decide)
      · rw [hy, List.getLast?_append] at h; simp at h; exact h4 (by rw [h]; decide)
end
noncomputable abbrev bL (l : List Nat) : Bool := l.all isB
noncomputable def dB (B : List (List Nat)) : List (List Nat) := B.dropWhile bL
noncomputable def uA (A : List (List Nat)) : List (List Nat) := (dB A.reverse).reverse
noncomputable def wbT (A : List (List Nat)) (x : List Nat) (B A' B' : List (List Nat)) : List Nat :=
  if B' = [] then catL A' ++ (if (A'.length = A.length ∧ B'.length = B.length) ∨ B'.length < B.length then [] else x)
  else catL A' ++ (if A'.length = A.length ∧ B'.length = B.length then [] else x ++ [10]) ++ joinL [10] B'
noncomputable def wbZ (A : List (List Nat)) (x : List Nat) (B : List (List Nat)) : List Nat :=
  if bL x = false then (if dB B = [] then joinL [10] (A ++ [x]) ++ (if B = [] then [] else [10]) else joinL [10] (A ++ [x] ++ dB B))
  else wbT A x B (uA A) (dB B)
noncomputable def sp_wb (ds : List D) (μ : Mem) (k : KE) : Prop := ∃ t A x B o n, ds = [.str (S8 t), .int ((o : Nat) : Int)] ∧ Zp t A x B n ∧ o ≤ t.length ∧ (t.take o).count 10 = A.length ∧ k (.str (S8 (wbZ A x B))) μ
theorem uA_snoc (A : List (List Nat)) (y : List Nat) : uA (A ++ [y]) = if bL y then uA A else A ++ [y] := by
  unfold uA dB
  rw [List.reverse_append]
  show (List.dropWhile bL (y :: A.reverse)).reverse = _
  rw [List.dropWhile_cons]
  split
  · rfl
  · simp
section
variable {G GM : Nat → List D → Mem → KE → Prop} {cs : List Nat} {f : Int} {i : Nat} {μ : Mem} {k : KE}
theorem AllSp.bl (h : AllSp G 33 sp_blank) {l : List Nat} (hl : l.length ≤ 4000) (hk : k (.bool (bL l)) μ) : G 33 [.str (S8 l)] μ k := h _ _ _ ⟨l, rfl, hl, hk⟩
theorem take_snoc {α : Type} {l : List α} {j : Nat} {y : α} (h : l[j]? = some y) : l.take (j + 1) = l.take j ++ [y] := by
  rw [List.take_add_one, h]; rfl
theorem joinLS {ls : List (List Nat)} (h : ∀ a ∈ ls, a.length ≤ 1000) (h2 : ls.length ≤ 1001) : ∃ ts : List Str, LS ls = ts.map .str ∧ JoinOk ⟨#[10]⟩ ts = true ∧ Txt.join ⟨#[10]⟩ ts = S8 (joinL [10] ls) :=
  ⟨ls.map S8, (by rw [List.map_map]; rfl), joinOk_S8 (sep := [10]) (B := 1000) h (by show ls.length * 1000 + ls.length * 1 ≤ _; lia), join_S8 [10] ls⟩
theorem wb_eqh {j a q : Nat} (h : j ≤ a) : (((j : Nat) : Int) == (a : Int) + (q : Nat)) = decide (j = a ∧ q = 0) := by
  rw [Bool.eq_iff_iff, beq_iff_eq, decide_eq_true_iff]; lia
theorem wb_eqs {j a b q : Nat} (h : q ≤ b) : (j = a ∧ q = 0) ↔ (j = a ∧ b - q = b) := by lia
theorem vc_wb (c33 : AllSp G 33 sp_blank) {ds} (h : sp_wb ds μ k) : vcSs (Γ0 G GM) ms_law_without_blanks (ds ++ List.replicate 7 .undef) μ (retK k) := by
  obtain ⟨t, A, x, B, o, n, rfl, z, ho, hc, hk⟩ := h
  have hle : Hid ((S8 t).length ≤ sizeLine) := ⟨S8_le (n := 1000) (Nat.le_trans z.nn z.n2) (by decide)⟩
  have hL := z.len
  have hn2 := z.n2
  have hLS : Hid ((LS (A ++ x :: B)).length ≤ sizeLine) := ⟨LS_le (n := 2000) (by rw [List.length_append, List.length_cons]; (clear hc ho; lia)) (by decide)⟩
  have hLl : (LS (A ++ x :: B)).length = A.length + B.length + 1 := by rw [List.length_map, List.length_append, List.length_cons]; (clear hc ho; lia)
  have hall : ∀ (j : Nat) (l : List Nat), (A ++ x :: B)[j]? = some l → l.length ≤ 4000 := fun j l h => by have := hL.2 l (List.mem_of_getElem? h); (clear hLl hL hc ho; lia)
  refine And.intro trivial (And.intro rfl (And.intro hle.g (And.intro (parts_le (Nat.le_trans z.nn z.n2) (by decide)) ?_)))
  refine And.intro hle.g ?_
  rw [slice_to t ho]
  refine And.intro trivial ?_
  show vcSs (Γ0 G GM) (ms_law_without_blanks.drop 1) [.str (S8 t), .int (o : Nat), .list ((Txt.split (S8 t) (S8 [10])).map D.str), .int (Txt.count (S8 (t.take o)) (S8 [10])), .undef, .undef, .undef, .undef, .undef] μ (retK k)
  rw [split_LS, z.sp, count_S8, hc]
  refine And.intro hLS.g ⟨_, LS_get (get_mid A x B), c33.bl (hall A.length x (get_mid A x B)) ?_⟩
  refine And.intro (fun h => ?_) (fun h => ?_)
  · -- the line has something
    have h : bL x = false := by
      have h : (!bL x) = true := h
      rw [Bool.not_eq_true'] at h; exact h
    unfold wbZ at hk
    rw [if_pos h] at hk
    obtain ⟨Iv1, hIv1⟩ : ∃ I : List D → Mem → Prop, ∀ l m, I l m ↔ ∃ j : Nat, l = [.str (S8 t), .int (o : Nat), .list (LS (A ++ x :: B)), .int (A.length : Nat), .int ((A.length : Int) + 1 + (j : Nat)), .undef, .undef, .undef, .undef] ∧ m = μ ∧ j ≤ B.length ∧ dB (B.drop j) = dB B := ⟨_, fun _ _ => .rfl⟩
    refine ⟨Iv1, fun l _ => (A.length + B.length + 1 - iAt l 4).toNat, (hIv1 _ _).mpr ⟨0, by show _ = [D.str (S8 t), .int (o : Nat), .list (LS (A ++ x :: B)), .int (A.length : Nat), .int ((A.length : Int) + 1 + 0), .undef, .undef, .undef, .undef]; rw [Int.add_zero]; rfl, rfl, Nat.zero_le _, rfl⟩, ?_⟩
    intro l m hhIv1
    obtain ⟨j, rfl, rfl, hj, hdj⟩ := (hIv1 _ _).mp hhIv1
    have e1 : pick (LS (A ++ x :: B)) none (some ((A.length : Int) + 1)) = LS (A ++ [x]) := by
      rw [show (A.length : Int) + 1 = ((A.length + 1 : Nat) : Int) by (clear hj hLl hL hc ho; lia), pick_to, ← List.map_take]
      congr 1
      rw [show A ++ x :: B = (A ++ [x]) ++ B by simp]
      exact List.take_left' (by simp)
    have post : dB B = B.drop j → vcSs (Γ0 G GM) [.ite (.cmp .eq (.var 4) (.bi .len [.var 2])) [.ret (.bin .add (.meth .join (.str ⟨#[10]⟩) [.slc (.var 2) [] [.bin .add (.var 3) (.int 1)]]) (.ite (.cmp .gt (.bi .len [.var 2]) (.bin .add (.var 3) (.int 1))) (.str ⟨#[10]⟩) (.str ⟨#[]⟩)))] [],
        .ret (.meth .join (.str ⟨#[10]⟩) [.bin .add (.slc (.var 2) [] [.bin .add (.var 3) (.int 1)]) (.slc (.var 2) [.var 4] [])])] [.str (S8 t), .int (o : Nat), .list (LS (A ++ x :: B)), .int (A.length : Nat), .int ((A.length : Int) + 1 + (j : Nat)), .undef, .undef, .undef, .undef] m (fun o l μ1 => match o with | .next => vcSs (Γ0 G GM) (ms_law_without_blanks.drop 2) l μ1 (retK k) | .ret v => retK k (.ret v) l μ1) := by
      intro hd
      have ej : Hid (dB B = [] ↔ j = B.length) := ⟨by
        rw [hd]; constructor
        · intro h; exact Nat.le_antisymm hj (List.drop_eq_nil_iff.mp h)
        · intro h; exact List.drop_eq_nil_iff.mpr (Nat.le_of_eq h.symm)⟩
      have cat1 : ∀ r : List (List Nat), (∀ a ∈ r, a ∈ B) → (A ++ [x] ++ r).length ≤ 1001 → ∀ a ∈ A ++ [x] ++ r, a.length ≤ 1000 := by
        intro r hr _ a ha
        refine Nat.le_trans (hL.2 a ?_) hn2
        rcases List.mem_append.mp ha with ha | ha
        · rcases List.mem_append.mp ha with ha | ha
          · simp [ha]
          · simp at ha; simp [ha]
        · simp [hr a ha]
      refine And.intro hLS.g (And.intro (fun h => ?_) (fun h => ?_))
      · have h : j = B.length := by have := eq_of_beq h; (clear hc ho; lia)
        rw [if_pos (ej.g.mpr h)] at hk
        refine And.intro trivial (And.intro hLS.g ?_)
        rw [e1]
        have c0 := cat1 [] (fun _ h => by cases h) (by rw [List.append_nil, List.length_append]; show A.length + 1 ≤ _; (clear h hj hLl hc ho; lia))
        rw [List.append_nil] at c0
        obtain ⟨ts, t1, t2, t3⟩ := joinLS c0 (by rw [List.length_append]; show A.length + 1 ≤ _; (clear h cat1 hj hLl hc ho; lia))
        refine ⟨ts, t1, t2, ?_⟩
        rw [t3]
        have hjl : (joinL [10] (A ++ [x])).length ≤ 1000 := by
          rw [joinL_zip]
          have := z.nn
          rw [z.e, List.length_append] at this
          rw [List.length_append]
          show _ + 0 ≤ _
          (clear t3 hLl hc ho; lia)
        refine And.intro hLS.g (And.intro (fun h2 => ?_) (fun h2 => ?_))
        · have h2 : B ≠ [] := by
            intro e; subst e
            have h2 : ((A.length : Int) + 1) < ((LS (A ++ [x])).length : Nat) := of_decide_eq_true h2
            rw [List.length_nil] at hLl; (clear hL hjl hn2 hc ho; lia)
          rw [if_neg h2] at hk
          refine And.intro (S8_add (b := [10]) (n := 2000) (by show _ + 1 ≤ _; (clear hLl hc ho; lia)) (by decide)) ?_
          show k (.str (S8 _ ++ S8 [10])) m
          rw [S8_app]; exact hk
        · have h2 : B = [] := by
            have h2 : ¬ ((A.length : Int) + 1) < ((LS (A ++ x :: B)).length : Nat) := of_decide_eq_false h2
            exact List.eq_nil_of_length_eq_zero (by (clear hjl h hc ho; lia))
          rw [if_pos h2] at hk
          refine And.intro (S8_add (b := []) (n := 2000) (by show _ + 0 ≤ _; (clear hLl hc ho; lia)) (by decide)) ?_
          show k (.str (S8 _ ++ S8 [])) m
          rw [S8_app]; exact hk
      · have h : j ≠ B.length := by
          have h : (((A.length : Int) + 1 + (j : Nat)) == ((LS (A ++ x :: B)).length : Nat)) = false := h
          have := by simpa using h
          (clear hLl hc ho; lia)
        rw [if_neg (fun e => h (ej.g.mp e))] at hk
        refine And.intro trivial (And.intro hLS.g ?_)
        rw [e1]
        refine And.intro hLS.g ?_
        rw [show (A.length : Int) + 1 + (j : Nat) = ((A.length + 1 + j : Nat) : Int) by (clear hLl hc ho; lia), pick_from _ (by rw [hLl]; (clear hLl hc ho; lia))]
        have e2 : (LS (A ++ x :: B)).drop (A.length + 1 + j) = LS (B.drop j) := by
          rw [← List.map_drop]
          congr 1
          rw [show A ++ x :: B = (A ++ [x]) ++ B by simp, ← List.drop_drop]
          congr 1
          exact List.drop_left' (by simp)
        rw [e2]
        have e3 : LS (A ++ [x]) ++ LS (B.drop j) = LS (A ++ [x] ++ dB B) := by rw [hd, ← List.map_append]
        have ll : (A ++ [x] ++ dB B).length ≤ 1001 := by
          rw [List.length_append, List.length_append, hd, List.length_drop]; show A.length + 1 + _ ≤ _; (clear hLl hc ho; lia)
        refine And.intro (by rw [← List.length_append, e3]; exact LS_le (n := 1001) ll (by decide)) ?_
        rw [e3]
        obtain ⟨ts, t1, t2, t3⟩ := joinLS (cat1 (dB B) (fun a ha => by rw [hd] at ha; exact List.mem_of_mem_drop ha) ll) ll
        refine ⟨ts, t1, t2, ?_⟩
        rw [t3]; exact hk
    refine And.intro hLS.g (And.intro (fun h2 => ?_) (fun h2 => ?_))
    · have h2 : j = B.length := by have h2 : ¬ ((A.length : Int) + 1 + (j : Nat)) < ((LS (A ++ x :: B)).length : Nat) := of_decide_eq_false h2; (clear hc ho; lia)
      refine And.intro (fun h => by cases h) (fun _ => post ?_)
      rw [← hdj, h2, List.drop_length]; rfl
    · have h2 : j < B.length := by have h2 : ((A.length : Int) + 1 + (j : Nat)) < ((LS (A ++ x :: B)).length : Nat) := of_decide_eq_true h2; (clear hc ho; lia)
      have hg : (A ++ x :: B)[A.length + 1 + j]? = some B[j] := by
        rw [List.getElem?_append_right (by (clear hLl hc ho; lia)), show A.length + 1 + j - A.length = j + 1 by (clear hLl hc ho; lia), List.getElem?_cons_succ, List.getElem?_eq_getElem h2]
      have hdd : B.drop j = B[j] :: B.drop (j + 1) := List.drop_eq_getElem_cons h2
      rw [hdd] at hdj
      unfold dB at hdj
      rw [List.dropWhile_cons] at hdj
      refine And.intro hLS.g ⟨_, by rw [show (A.length : Int) + 1 + (j : Nat) = ((A.length + 1 + j : Nat) : Int) by (clear hLl hLS hc ho; lia)]; exact LS_get hg, c33.bl (hall _ _ hg) (And.intro (fun h3 => ?_) (fun h3 => ?_))⟩
      · refine And.intro (fun h => by cases h) (fun _ => post ?_)
        rw [h3, if_neg Bool.false_ne_true] at hdj
        rw [hdd]; exact hdj.symm
      · refine And.intro (fun _ => ?_) (fun h => by cases h)
        rw [h3, if_pos rfl] at hdj
        refine ⟨(hIv1 _ _).mpr ⟨j + 1, ?_, rfl, h2, hdj⟩, ?_⟩
        · show [D.str (S8 t), .int (o : Nat), .list (LS (A ++ x :: B)), .int (A.length : Nat), .int ((A.length : Int) + 1 + (j : Nat) + 1), .undef, .undef, .undef, .undef] = _
          rw [show (A.length : Int) + 1 + (j : Nat) + 1 = (A.length : Int) + 1 + ((j + 1 : Nat) : Int) by (clear h3 hLl hc ho; lia)]
        · show ((A.length : Int) + B.length + 1 - ((A.length : Int) + 1 + (j : Nat) + 1)).toNat < ((A.length : Int) + B.length + 1 - ((A.length : Int) + 1 + (j : Nat))).toNat
          (clear hLl hc ho; lia)
  · -- the line is blank
    have h : ¬ bL x = false := by
      have h : (!bL x) = false := h
      rw [Bool.not_eq_false'] at h
      rw [show bL x = true from h]; exact Bool.noConfusion
    unfold wbZ at hk
    rw [if_neg h] at hk
    obtain ⟨Iv2, hIv2⟩ : ∃ I : List D → Mem → Prop, ∀ l m, I l m ↔ ∃ j : Nat, l = [.str (S8 t), .int (o : Nat), .list (LS (A ++ x :: B)), .int (A.length : Nat), .undef, .int (j : Nat), .int (A.length : Nat), .undef, .undef] ∧ m = μ ∧ j ≤ A.length ∧ uA (A.take j) = uA A := ⟨_, fun _ _ => .rfl⟩
    refine ⟨Iv2, fun l _ => (iAt l 5).toNat, (hIv2 _ _).mpr ⟨A.length, rfl, rfl, Nat.le_refl _, by rw [List.take_length]⟩, ?_⟩
    intro l m hhIv2
    obtain ⟨j, rfl, rfl, hj, hdj⟩ := (hIv2 _ _).mp hhIv2
    have post : uA A = A.take j → vcSs (Γ0 G GM) (ms_law_without_blanks.drop 4) [.str (S8 t), .int (o : Nat), .list (LS (A ++ x :: B)), .int (A.length : Nat), .undef, .int (j : Nat), .int (A.length : Nat), .undef, .undef] m (retK k) := by
      intro hA
      obtain ⟨Iv3, hIv3⟩ : ∃ I : List D → Mem → Prop, ∀ l m2, I l m2 ↔ ∃ q : Nat, l = [.str (S8 t), .int (o : Nat), .list (LS (A ++ x :: B)), .int (A.length : Nat), .undef, .int (j : Nat), .int ((A.length : Int) + (q : Nat)), .undef, .undef] ∧ m2 = m ∧ q ≤ B.length ∧ dB (B.drop q) = dB B := ⟨_, fun _ _ => .rfl⟩
      refine ⟨Iv3, fun l _ => (A.length + B.length + 1 - iAt l 6).toNat, (hIv3 _ _).mpr ⟨0, by show _ = [D.str (S8 t), .int (o : Nat), .list (LS (A ++ x :: B)), .int (A.length : Nat), .undef, .int (j : Nat), .int ((A.length : Int) + 0), .undef, .undef]; rw [Int.add_zero], rfl, Nat.zero_le _, rfl⟩, ?_⟩
      intro l m2 hhIv3
      obtain ⟨q, rfl, rfl, hq, hdq⟩ := (hIv3 _ _).mp hhIv3
      have post2 : dB B = B.drop q → vcSs (Γ0 G GM) (ms_law_without_blanks.drop 5) [.str (S8 t), .int (o : Nat), .list (LS (A ++ x :: B)), .int (A.length : Nat), .undef, .int (j : Nat), .int ((A.length : Int) + (q : Nat)), .undef, .undef] m2 (retK k) := by
        intro hB
        have lA : (uA A).length = j := by rw [hA, List.length_take]; (clear hq hLl hL hc ho; lia)
        have lB : (dB B).length = B.length - q := by rw [hB, List.length_drop]
        have e1 : pick (LS (A ++ x :: B)) none (some (j : Nat)) = LS (uA A) := by
          rw [pick_to, ← List.map_take, hA]
          congr 1
          exact List.take_append_of_le_length hj
        have e2 : pick (LS (A ++ x :: B)) (some ((A.length : Int) + (q : Nat) + 1)) none = LS (dB B) := by
          rw [show (A.length : Int) + (q : Nat) + 1 = ((A.length + 1 + q : Nat) : Int) by (clear lB hj hLl hc ho; lia), pick_from _ (by rw [hLl]; (clear lB hj hLl hc ho; lia)), ← List.map_drop, hB]
          congr 1
          rw [show A ++ x :: B = (A ++ [x]) ++ B by simp, ← List.drop_drop]
          congr 1
          exact List.drop_left' (by simp)
        have mA : ∀ a ∈ uA A, a.length ≤ 1000 := fun a ha => by
          rw [hA] at ha
          exact Nat.le_trans (hL.2 a (List.mem_append_left _ (List.mem_of_mem_take ha))) hn2
        have mB : ∀ a ∈ dB B, a.length ≤ 1000 := fun a ha => by
          rw [hB] at ha
          exact Nat.le_trans (hL.2 a (List.mem_append_right _ (List.mem_cons_of_mem _ (List.mem_of_mem_drop ha)))) hn2
        have lcat : (catL (uA A)).length ≤ 1000 := by
          have e : catL A = catL (uA A) ++ catL (A.drop j) := by
            rw [hA]
            unfold catL
            rw [← List.flatMap_append, List.take_append_drop]
          have := z.nn
          rw [z.e, List.length_append, List.length_append, e, List.length_append] at this
          (clear lB lA hq hj hLl hL hc ho; lia)
        refine And.intro trivial (And.intro hLS.g ?_)
        rw [e1]
        refine And.intro (LS_le (n := 1001) (by (clear lB hLl hc ho; lia)) (by decide)) ?_
        refine comp_map (fun l : List Nat => D.str (S8 l)) (fun l => D.str (S8 (l ++ [10]))) (uA A) (fun x hx k' h => h) (fun a ha k' h => And.intro (S8_add (b := [10]) (n := 2000) (by have := mA a ha; show _ + 1 ≤ _; (clear lcat lB lA hq hj hLl hL hc ho; lia)) (by decide)) ?_) ?_
        · show k' (.str (S8 a ++ S8 [10])) m2
          rw [S8_app]; exact h
        refine ⟨((uA A).map fun l => l ++ [10]).map S8, by rw [List.map_map, List.map_map]; rfl, ?_, ?_⟩
        · refine joinOk_S8 (sep := []) (B := 1001) (fun a ha => ?_) (by rw [List.length_map]; show _ * 1001 + _ * 0 ≤ _; (clear lB hLl hc ho; lia))
          obtain ⟨b, hb, rfl⟩ := List.mem_map.mp ha
          have := mA b hb
          rw [List.length_append]; show _ + 1 ≤ _; (clear lcat lB lA hq hj hLl hn2 hL hc ho; lia)
        show vcEs (Γ0 G GM) _ _ _ _
        have ej : Txt.join ⟨#[]⟩ (((uA A).map fun l => l ++ [10]).map S8) = S8 (catL (uA A)) := by
          show Txt.join (S8 []) _ = _
          rw [join_S8]
          congr 1
          have : ∀ ls : List (List Nat), joinL [] ls = ls.flatten := by
            intro ls
            induction ls with
            | nil => rfl
            | cons a r ih =>
              cases r with
              | nil => show a = _; simp
              | cons b r => show a ++ [] ++ joinL [] (b :: r) = _; rw [ih]; simp
          rw [this]
          unfold catL
          rw [List.flatMap_def]
        rw [ej]
        refine And.intro hLS.g ?_
        rw [e2]
        have em : (LS (dB B)).isEmpty = decide (dB B = []) := by cases dB B <;> rfl
        have eqh := wb_eqh (q := q) hj
        have eqs : Hid ((j = A.length ∧ q = 0) ↔ ((uA A).length = A.length ∧ (dB B).length = B.length)) := ⟨by
          rw [lA, lB]; exact wb_eqs hq⟩
        refine And.intro (.inr ⟨(dB B).map S8, fun s hs => ?_, by rw [List.map_map]; rfl⟩) (And.intro (LS_le (n := 1001) (by (clear lA hj hLl hc ho; lia)) (by decide)) ?_)
        · obtain ⟨a, ha, rfl⟩ := List.mem_map.mp hs
          unfold PyData.strOk
          rw [Array.all_eq_true']
          intro c hc
          refine decide_eq_true ?_
          rw [hB] at ha
          exact z.chars a (List.mem_append_right _ (List.mem_cons_of_mem _ (List.mem_of_mem_drop ha))) c (by simpa [S8] using hc)
        show ((!(LS (dB B)).isEmpty) = true → _) ∧ ((!(LS (dB B)).isEmpty) = false → _)
        rw [em]
        unfold wbT at hk
        refine And.intro (fun h3 => ?_) (fun h3 => ?_)
        · have h3 : dB B ≠ [] := by rw [Bool.not_eq_true'] at h3; exact of_decide_eq_false h3
          rw [if_neg h3] at hk
          obtain ⟨ts, t1, t2, t3⟩ := joinLS mB (by (clear hLl hLS hc ho; lia))
          have ljn : (joinL [10] (dB B)).length ≤ 1001 := by
            cases q2 : dB B with
            | nil => exact absurd q2 h3
            | cons b r =>
              have e : tacL B = tacL (B.take q) ++ tacL (b :: r) := by
                rw [← q2, hB]
                unfold tacL
                rw [← List.flatMap_append, List.take_append_drop]
              have := z.nn
              rw [z.e, List.length_append, e, List.length_append, List.length_append] at this
              have e2 := joinL_zip [] b r
              rw [List.nil_append] at e2
              rw [e2]
              show ([] ++ b ++ tacL r).length ≤ _
              have e3 : (tacL (b :: r)).length = b.length + 1 + (tacL r).length := by
                show ((10 :: b) ++ tacL r).length = _
                simp; (clear this lcat lB lA hq hj hLl hL hc ho; lia)
              rw [List.nil_append, List.length_append]; (clear lcat lB lA hq hj hLl hL hc ho; lia)
          have lxx : x.length ≤ 1000 := Nat.le_trans (hL.2 x (by simp)) hn2
          have fin : ∀ s : List Nat, s.length ≤ 1001 → (if (uA A).length = A.length ∧ (dB B).length = B.length then [] else x ++ [10]) = s → (S8 (catL (uA A))).length + (S8 s).length ≤ sizeLine ∧ k (.str (S8 (catL (uA A)) ++ S8 s ++ S8 (joinL [10] (dB B)))) m2 ∧ (S8 (catL (uA A)) ++ S8 s).length + (S8 (joinL [10] (dB B))).length ≤ sizeLine := by
            intro s hs e
            rw [e] at hk
            refine ⟨S8_add (n := 2001) (by (clear lxx ljn lB lA hq hj hLl hL hc ho; lia)) (by decide), ?_, ?_⟩
            · rw [S8_app, S8_app]; exact hk
            · rw [S8_app]; exact S8_add (n := 4000) (by rw [List.length_append]; (clear lxx lB lA hq hj hLl hL hc ho; lia)) (by decide)
          show ((((j : Nat) : Int) == (A.length : Int) + (q : Nat)) = true → _) ∧ ((((j : Nat) : Int) == (A.length : Int) + (q : Nat)) = false → _)
          rw [eqh]
          refine And.intro (fun h4 => ?_) (fun h4 => ?_)
          · obtain ⟨f1, f2, f3⟩ := fin [] (Nat.zero_le _) (if_pos (eqs.g.mp (of_decide_eq_true h4)))
            refine And.intro f1 (And.intro trivial (⟨ts, t1, t2, ?_⟩))
            rw [t3]
            exact And.intro f3 f2
          · obtain ⟨f1, f2, f3⟩ := fin (x ++ [10]) (by rw [List.length_append]; show _ + 1 ≤ _; (clear ljn lcat lB lA hq hj hLl hL hc ho; lia)) (if_neg (fun e => of_decide_eq_false h4 (eqs.g.mpr e)))
            refine And.intro hLS.g ⟨_, LS_get (get_mid A x B), And.intro (S8_add (b := [10]) (n := 2000) (by show _ + 1 ≤ _; (clear f3 f1 ljn lcat lB lA hq hj hLl hL hc ho; lia)) (by decide)) ?_⟩
            show _ ∧ _
            rw [show (S8 x ++ ⟨#[10]⟩ : Str) = S8 (x ++ [10]) from S8_app x [10]]
            refine And.intro f1 (And.intro trivial (⟨ts, t1, t2, ?_⟩))
            rw [t3]
            exact And.intro f3 f2
        · have h3 : dB B = [] := by rw [Bool.not_eq_false'] at h3; exact of_decide_eq_true h3
          rw [if_pos h3] at hk
          have lxx : x.length ≤ 1000 := Nat.le_trans (hL.2 x (by simp)) hn2
          have fin : ((uA A).length = A.length ∧ (dB B).length = B.length) ∨ (dB B).length < B.length → k (.str (S8 (catL (uA A)))) m2 := by
            intro e
            rw [if_pos e, List.append_nil] at hk; exact hk
          show ((((j : Nat) : Int) == (A.length : Int) + (q : Nat)) = true → _) ∧ ((((j : Nat) : Int) == (A.length : Int) + (q : Nat)) = false → _)
          rw [eqh]
          refine And.intro (fun h4 => And.intro (fun _ => fin (.inl (eqs.g.mp (of_decide_eq_true h4)))) (fun h => by cases h)) (fun h4 => ?_)
          refine And.intro (fun h5 => And.intro (fun _ => fin (.inr ?_)) (fun h => by cases h)) (fun h5 => And.intro (fun h => by cases h) (fun _ => ?_))
          · have h5 : (A.length : Int) < (A.length : Int) + (q : Nat) := of_decide_eq_true h5
            rw [lB]; (clear fin lcat lB lA hj hLl hc ho; lia)
          · have h5 : ¬ (A.length : Int) < (A.length : Int) + (q : Nat) := of_decide_eq_false h5
            refine And.intro hLS.g ⟨_, LS_get (get_mid A x B), And.intro (S8_add (n := 2000) (by (clear lB lA hq hj hLl hL hc ho; lia)) (by decide)) ?_⟩
            rw [S8_app]
            rw [if_neg (by
              rintro (e | e)
              · exact of_decide_eq_false h4 (eqs.g.mpr e)
              · rw [lB] at e; (clear fin lA hj hLl hc ho; lia))] at hk
            exact hk
      refine And.intro hLS.g (And.intro (fun h2 => ?_) (fun h2 => ?_))
      · have h2 : q = B.length := by have h2 : ¬ ((A.length : Int) + (q : Nat) + 1) < ((LS (A ++ x :: B)).length : Nat) := of_decide_eq_false h2; (clear hj hc ho; lia)
        refine And.intro (fun h => by cases h) (fun _ => post2 ?_)
        rw [← hdq, h2, List.drop_length]; rfl
      · have h2 : q < B.length := by have h2 : ((A.length : Int) + (q : Nat) + 1) < ((LS (A ++ x :: B)).length : Nat) := of_decide_eq_true h2; (clear hj hc ho; lia)
        have hg : (A ++ x :: B)[A.length + 1 + q]? = some B[q] := by
          rw [List.getElem?_append_right (by (clear hj hLl hLS hc ho; lia)), show A.length + 1 + q - A.length = q + 1 by (clear hj hLl hLS hc ho; lia), List.getElem?_cons_succ, List.getElem?_eq_getElem h2]
        have hdd : B.drop q = B[q] :: B.drop (q + 1) := List.drop_eq_getElem_cons h2
        rw [hdd] at hdq
        unfold dB at hdq
        rw [List.dropWhile_cons] at hdq
        refine And.intro hLS.g ⟨_, by rw [show (A.length : Int) + (q : Nat) + 1 = ((A.length + 1 + q : Nat) : Int) by (clear hj h hLl hc ho; lia)]; exact LS_get hg, c33.bl (hall _ _ hg) (And.intro (fun h3 => ?_) (fun h3 => ?_))⟩
        · refine And.intro (fun h => by cases h) (fun _ => post2 ?_)
          rw [h3, if_neg Bool.false_ne_true] at hdq
          rw [hdd]; exact hdq.symm
        · refine And.intro (fun _ => ?_) (fun h => by cases h)
          rw [h3, if_pos rfl] at hdq
          refine ⟨(hIv3 _ _).mpr ⟨q + 1, ?_, rfl, h2, hdq⟩, ?_⟩
          · show [D.str (S8 t), .int (o : Nat), .list (LS (A ++ x :: B)), .int (A.length : Nat), .undef, .int (j : Nat), .int ((A.length : Int) + (q : Nat) + 1), .undef, .undef] = _
            rw [show (A.length : Int) + (q : Nat) + 1 = (A.length : Int) + ((q + 1 : Nat) : Int) by (clear h3 hj hLl hc ho; lia)]
          · show ((A.length : Int) + B.length + 1 - ((A.length : Int) + (q : Nat) + 1)).toNat < ((A.length : Int) + B.length + 1 - ((A.length : Int) + (q : Nat))).toNat
            (clear hj hLl hc ho; lia)
    refine And.intro (fun h2 => ?_) (fun h2 => ?_)
    · have h2 : j = 0 := by have h2 : ¬ ((0 : Int) < ((j : Nat) : Int)) := of_decide_eq_false h2; (clear hLl hL hc ho; lia)
      refine And.intro (fun h => by cases h) (fun _ => post ?_)
      rw [← hdj, h2]; rfl
    · have h2 : 0 < j := by have h2 : ((0 : Int) < ((j : Nat) : Int)) := of_decide_eq_true h2; (clear hLl hL hc ho; lia)
      obtain ⟨j, rfl⟩ : ∃ j', j = j' + 1 := ⟨j - 1, by (clear hLl hL hc ho; lia)⟩
      have hA1 : A[j]? = some A[j] := List.getElem?_eq_getElem (by (clear hLl hL hc ho; lia))
      have hg : (A ++ x :: B)[j]? = some A[j] := by
        rw [List.getElem?_append_left (by (clear hLl hL hc ho; lia)), hA1]
      have ts := take_snoc hA1
      rw [ts, uA_snoc] at hdj
      have ej : ((j + 1 : Nat) : Int) - 1 = (j : Nat) := by (clear ts hLl hL hc ho; lia)
      refine And.intro hLS.g ⟨_, by rw [ej]; exact LS_get hg, c33.bl (hall _ _ hg) (And.intro (fun h3 => ?_) (fun h3 => ?_))⟩
      · refine And.intro (fun h => by cases h) (fun _ => post ?_)
        rw [h3, if_neg Bool.false_ne_true] at hdj
        rw [ts]; exact hdj.symm
      · refine And.intro (fun _ => ?_) (fun h => by cases h)
        rw [h3, if_pos rfl] at hdj
        refine ⟨(hIv2 _ _).mpr ⟨j, ?_, rfl, by (clear hLl hL hc ho; lia), hdj⟩, ?_⟩
        · show [D.str (S8 t), .int (o : Nat), .list (LS (A ++ x :: B)), .int (A.length : Nat), .undef, .int (((j + 1 : Nat) : Int) - 1), .int (A.length : Nat), .undef, .undef] = _
          rw [ej]
        · show (((j + 1 : Nat) : Int) - 1).toNat < (((j + 1 : Nat) : Int)).toNat
          (clear hLl hL hc ho; lia)
end
theorem cAt_get {cs : List Nat} {i : Nat} (h : i < cs.length) : cs[i]? = some (cAt cs i) := by
  unfold cAt; rw [List.getD_eq_getElem?_getD, List.getElem?_eq_getElem h]; rfl
theorem take_succ_c {cs : List Nat} {i : Nat} (h : i < cs.length) : cs.take (i + 1) = cs.take i ++ [cAt cs i] := take_snoc (cAt_get h)
theorem drop_c {cs : List Nat} {i : Nat} (h : i < cs.length) : cs.drop i = cAt cs i :: cs.drop (i + 1) := by
  rw [List.drop_eq_getElem_cons h]
  congr 1
  have := cAt_get h
  rw [List.getElem?_eq_getElem h] at this; exact Option.some.inj this
theorem rst_snoc (l : List Nat) (c : Nat) : rst (l ++ [c]) = if isB c then rst l else l ++ [c] := by
  unfold rst
  rw [List.reverse_append]
  show (List.dropWhile isB (c :: l.reverse)).reverse = _
  rw [List.dropWhile_cons]
  split
  · rfl
  · simp
theorem lst_cons (c : Nat) (l : List Nat) : lst (c :: l) = if isB c then lst l else c :: l := by
  unfold lst
  rw [List.dropWhile_cons]
theorem take_bb (cs : List Nat) : ∀ i, i ≤ cs.length → cs.take (bb cs i) = rst (cs.take i)
  | 0, _ => rfl
  | i + 1, h => by
    rw [take_succ_c h, rst_snoc, bb]
    split
    · exact take_bb cs i (by lia)
    · rw [take_succ_c h]
theorem drop_be (cs : List Nat) : ∀ (n i : Nat), i + n = cs.length → cs.drop (be cs i) = lst (cs.drop i)
  | 0, i, h => by
    rw [be_stop cs (by lia) (.inl (by lia)), List.drop_of_length_le (by lia)]; rfl
  | n + 1, i, h => by
    have hi : i < cs.length := by lia
    rw [drop_c hi, lst_cons]
    cases q : isB (cAt cs i) with
    | true => rw [if_pos rfl, be_step cs hi q]; exact drop_be cs n (i + 1) (by lia)
    | false => rw [if_neg Bool.false_ne_true, be_stop cs (by (clear hi; lia)) (.inr q), drop_c hi]
theorem drop_be' (cs : List Nat) {i : Nat} (h : i ≤ cs.length) : cs.drop (be cs i) = lst (cs.drop i) := drop_be cs (cs.length - i) i (by lia)
theorem edit_both (cs : List Nat) {i : Nat} (h : i ≤ cs.length) (ins : List Nat) : apE cs (bb cs i, be cs i, ins) = rst (cs.take i) ++ ins ++ lst (cs.drop i) := by
  show cs.take (bb cs i) ++ ins ++ cs.drop (be cs i) = _
  rw [take_bb cs i h, drop_be' cs h]
theorem edit_back (cs : List Nat) {i : Nat} (h : i ≤ cs.length) : apE cs (bb cs i, i, []) = rst (cs.take i) ++ cs.drop i := by
  show cs.take (bb cs i) ++ [] ++ cs.drop i = _
  rw [take_bb cs i h, List.append_nil]
noncomputable def edge (a b : List Nat) : Bool := decide (a = []) || decide (a.getLast? = some 10 ∨ a.getLast? = some 40 ∨ a.getLast? = some 39) || decide (b = []) || decide (b.head? = some 10 ∨ b.head? = some 41)
theorem last_take {cs : List Nat} {i : Nat} (h : i ≤ cs.length) (h0 : 0 < i) : (cs.take i).getLast? = some (cAt cs (i - 1)) := by
  obtain ⟨i, rfl⟩ : ∃ j, i = j + 1 := ⟨i - 1, by (clear h; lia)⟩
  rw [take_succ_c h, List.getLast?_append]; rfl
theorem head_drop {cs : List Nat} {i : Nat} (h : i < cs.length) : (cs.drop i).head? = some (cAt cs i) := by
  rw [drop_c h]; rfl
theorem ws_edge {cs : List Nat} (ha : ∀ i, i < cs.length → al (cAt cs i) = true) {a b : Nat} (h1 : a ≤ cs.length) (h2 : b ≤ cs.length) : ws cs a b = !edge (cs.take a) (cs.drop b) := by
  unfold ws edge ilb ile
  by_cases qa : a = 0
  · subst qa; simp
  have ta : cs.take a ≠ [] := by
    intro e
    have := congrArg List.length e
    rw [List.length_take, List.length_nil] at this; (clear h2; lia)
  rw [decide_eq_false qa, decide_eq_false ta, last_take h1 (by lia)]
  by_cases qb : b = cs.length
  · subst qb; simp
  have tb : cs.drop b ≠ [] := by
    intro e
    have := congrArg List.length e
    rw [List.length_drop, List.length_nil] at this; (clear h1 ha; lia)
  rw [decide_eq_false qb, decide_eq_false tb, head_drop (by (clear h1 ha; lia))]
  have h39 : cAt cs (a - 1) ≠ 39 := by
    intro e
    have := ha (a - 1) (by (clear e qb h2 ha; lia))
    rw [e] at this; exact absurd this (by decide)
  simp only [Option.some.injEq, Bool.false_or, Bool.or_false]
  by_cases e1 : cAt cs (a - 1) = 10 <;> by_cases e2 : cAt cs (a - 1) = 40 <;> by_cases e3 : cAt cs b = 10 <;> by_cases e4 : cAt cs b = 41 <;> simp [e1, e2, e3, e4, h39]
theorem cAt_app_left {a b : List Nat} {i : Nat} (h : i < a.length) : cAt (a ++ b) i = cAt a i := by
  unfold cAt
  rw [List.getD_eq_getElem?_getD, List.getD_eq_getElem?_getD, List.getElem?_append_left h]
theorem cAt_app_right {a b : List Nat} (i : Nat) : cAt (a ++ b) (a.length + i) = cAt b i := by
  unfold cAt
  rw [List.getD_eq_getElem?_getD, List.getD_eq_getElem?_getD, List.getElem?_append_right (by lia), show a.length + i - a.length = i by lia]
theorem cAt_mem {l : List Nat} {i : Nat} (h : i < l.length) : cAt l i ∈ l := List.mem_of_getElem? (cAt_get h)
structure Ln (cs P x S : List Nat) : Prop where
  e : cs = P ++ x ++ S
  p : P = [] ∨ P.getLast? = some 10
  x : 10 ∉ x
  s : S = [] ∨ S.head? = some 10
section
variable {cs P x S : List Nat}
theorem Ln.len (h : Ln cs P x S) : cs.length = P.length + x.length + S.length := by rw [h.e, List.length_append, List.length_append]
theorem Ln.at_x (h : Ln cs P x S) {j : Nat} (hj : j < x.length) : cAt cs (P.length + j) = cAt x j := by
  rw [h.e, List.append_assoc, cAt_app_right, cAt_app_left hj]
theorem Ln.at_s (h : Ln cs P x S) (hs : S ≠ []) : cAt cs (P.length + x.length) = 10 := by
  rcases h.s with e | e
  · exact absurd e hs
  rw [h.e, show P.length + x.length = (P ++ x).length + 0 by rw [List.length_append]; rfl, cAt_app_right]
  cases S with
  | nil => exact absurd rfl hs
  | cons a r => cases e; rfl
theorem Ln.at_p (h : Ln cs P x S) (hp : P ≠ []) : cAt cs (P.length - 1) = 10 := by
  rcases h.p with e | e
  · exact absurd e hp
  rw [h.e, List.append_assoc]
  have hl : 0 < P.length := List.length_pos_iff.mpr hp
  rw [cAt_app_left (by lia)]
  rw [List.getLast?_eq_getElem?, cAt_get (by lia)] at e
  exact Option.some.inj e
theorem Ln.lsE (h : Ln cs P x S) : ∀ {j : Nat}, j ≤ x.length → ls cs (P.length + j) = P.length
  | 0, _ => by
    show ls cs P.length = P.length
    cases q : P with
    | nil => rfl
    | cons a r =>
      rw [← q]
      have hp : P ≠ [] := by rw [q]; exact List.cons_ne_nil _ _
      have hl : 0 < P.length := List.length_pos_iff.mpr hp
      conv => lhs; rw [show P.length = (P.length - 1) + 1 by lia]
      unfold ls
      rw [if_pos (h.at_p hp)]; lia
  | j + 1, hj => by
    rw [← Nat.add_assoc]
    unfold ls
    rw [if_neg (by rw [h.at_x hj]; exact fun e => h.x (e ▸ cAt_mem hj))]
    exact h.lsE (by lia)
theorem Ln.leF_ (h : Ln cs P x S) : ∀ (n : Nat) {j : Nat}, j + n = x.length → le cs (P.length + j) = P.length + x.length
  | 0, j, hj => by
    have e : j = x.length := by lia
    subst e
    refine le_stop cs (by rw [h.len]; lia) ?_
    by_cases hs : S = []
    · refine .inl ?_
      rw [h.len, hs]; rfl
    · exact .inr (h.at_s hs)
  | n + 1, j, hj => by
    have hj2 : j < x.length := by lia
    rw [le_step cs (by rw [h.len]; (clear hj2; lia)) (by rw [h.at_x hj2]; exact fun e => h.x (e ▸ cAt_mem hj2)), Nat.add_assoc]
    exact h.leF_ n (by lia)
theorem Ln.leE (h : Ln cs P x S) {j : Nat} (hj : j ≤ x.length) : le cs (P.length + j) = P.length + x.length := h.leF_ (x.length - j) (by lia)
theorem Ln.blkE (h : Ln cs P x S) {j : Nat} (hj : j ≤ x.length) : blk cs (P.length + j) = bL x := by
  unfold blk
  rw [h.lsE hj]
  have d := drop_be' cs (i := P.length) (by rw [h.len]; (clear hj; lia))
  have bd := be_bd cs (i := P.length) (by rw [h.len]; (clear hj; lia))
  have ed : cs.drop P.length = x ++ S := by rw [h.e, List.append_assoc, List.drop_left]
  rw [ed] at d
  have hS : lst S = S := by
    rcases h.s with e | e
    · rw [e]; rfl
    · cases S with
      | nil => rfl
      | cons a r => cases e; rfl
  have key : ∀ y : List Nat, lst (y ++ S) = if bL y then S else lst y ++ S := by
    intro y
    induction y with
    | nil => exact hS
    | cons a r ih =>
      rw [List.cons_append, lst_cons, lst_cons]
      unfold bL
      rw [List.all_cons]
      cases q : isB a with
      | true => rw [if_pos rfl, if_pos rfl, ih, Bool.true_and]
      | false => rw [if_neg Bool.false_ne_true, if_neg Bool.false_ne_true, Bool.false_and, if_neg Bool.false_ne_true]; rfl
  rw [key] at d
  have il : ∀ b, b ≤ cs.length → ile cs b = (match cs.drop b with | [] => true | c :: _ => decide (c = 10)) := by
    intro b hb
    unfold ile
    by_cases q : b = cs.length
    · rw [decide_eq_true q, List.drop_of_length_le (by (clear bd hj; lia))]; rfl
    · rw [drop_c (by (clear bd hj; lia)), decide_eq_false q]; rfl
  rw [il _ bd.2, d]
  cases q : bL x with
  | true =>
    rw [if_pos rfl]
    rcases h.s with e | e
    · rw [e]
    · cases S with
      | nil => rfl
      | cons a r => cases e; rfl
  | false =>
    rw [if_neg Bool.false_ne_true]
    cases q2 : lst x with
    | nil => rw [show lst x = [] ↔ _ from dropW_all x] at q2; rw [show bL x = true from q2] at q; cases q
    | cons a r =>
      have : a ∈ x := (List.dropWhile_sublist isB).subset (by rw [show x.dropWhile isB = lst x from rfl, q2]; exact .head _)
      have : a ≠ 10 := fun e => h.x (e ▸ this)
      exact decide_eq_false this
end
theorem nil_or_snoc {α : Type} (l : List α) : l = [] ∨ ∃ a b, l = a ++ [b] := by
  rcases List.eq_nil_or_concat l with h | ⟨a, b, h⟩
  · exact .inl h
  · exact .inr ⟨a, b, by rw [h, List.concat_eq_append]⟩
theorem rst_app {P : List Nat} (h : P = [] ∨ P.getLast? = some 10) (y : List Nat) : rst (P ++ y) = P ++ rst y := by
  unfold rst
  rw [List.reverse_append, List.dropWhile_append]
  split
  · rename_i q
    have q : y.reverse.dropWhile isB = [] := by simpa using q
    rw [q, List.reverse_nil, List.append_nil]
    rcases h with rfl | h
    · rfl
    · obtain ⟨P0, rfl⟩ := List.getLast?_eq_some_iff.mp h
      rw [List.reverse_append]
      show (List.dropWhile isB (10 :: P0.reverse)).reverse = _
      rw [List.dropWhile_cons, if_neg (by decide)]; simp
  · rw [List.reverse_append, List.reverse_reverse]
theorem lst_app {S : List Nat} (h : S = [] ∨ S.head? = some 10) (y : List Nat) : lst (y ++ S) = lst y ++ S := by
  unfold lst
  rw [List.dropWhile_append]
  split
  · rename_i q
    have q : y.dropWhile isB = [] := by simpa using q
    rw [q, List.nil_append]
    rcases h with rfl | h
    · rfl
    · cases S with
      | nil => rfl
      | cons a r => cases h; rw [List.dropWhile_cons, if_neg (by decide)]
  · rfl
theorem catL_app (A B : List (List Nat)) : catL (A ++ B) = catL A ++ catL B := List.flatMap_append
theorem catL_one (y : List Nat) : catL [y] = y ++ [10] := by show (y ++ [10]) ++ [] = _; rw [List.append_nil]
theorem catL_end (A : List (List Nat)) : catL A = [] ∨ (catL A).getLast? = some 10 := by
  rcases nil_or_snoc A with rfl | ⟨A0, y, rfl⟩
  · exact .inl rfl
  · refine .inr ?_
    rw [catL_app, catL_one, ← List.append_assoc, List.getLast?_append]; rfl
theorem tacL_head (B : List (List Nat)) : tacL B = [] ∨ (tacL B).head? = some 10 := by
  cases B with
  | nil => exact .inl rfl
  | cons b B => exact .inr rfl
theorem tacL_join (b : List Nat) (B : List (List Nat)) : tacL (b :: B) = 10 :: joinL [10] (b :: B) := by
  have := joinL_zip [] b B
  rw [List.nil_append] at this
  rw [this]; rfl
structure Zi (cs : List Nat) (A : List (List Nat)) (x : List Nat) (B : List (List Nat)) : Prop where
  e : cs = catL A ++ x ++ tacL B
  fr : ∀ a ∈ A ++ x :: B, 10 ∉ a
section
variable {cs : List Nat} {A : List (List Nat)} {x : List Nat} {B : List (List Nat)}
theorem Zi.ln (z : Zi cs A x B) : Ln cs (catL A) x (tacL B) := ⟨z.e, catL_end A, z.fr x (by simp), tacL_head B⟩
theorem Zi.back {A0 : List (List Nat)} {y : List Nat} (z : Zi cs (A0 ++ [y]) x B) : Zi cs A0 y (x :: B) := by
  refine ⟨?_, ?_⟩
  · rw [z.e, catL_app, catL_one]
    show _ = catL A0 ++ y ++ ((10 :: x) ++ tacL B)
    simp
  · have := z.fr
    rw [List.append_assoc] at this; exact this
theorem Zi.next {b : List Nat} {B' : List (List Nat)} (z : Zi cs A x (b :: B')) : Zi cs (A ++ [x]) b B' := by
  refine ⟨?_, ?_⟩
  · rw [z.e, catL_app, catL_one]
    show catL A ++ x ++ ((10 :: b) ++ tacL B') = _
    simp
  · have := z.fr
    rw [List.append_assoc]; exact this
theorem Zi.len (z : Zi cs A x B) : cs.length = (catL A).length + x.length + (tacL B).length := z.ln.len
theorem Zi.nsE (z : Zi cs A x B) {j : Nat} (hj : j ≤ x.length) : ns cs ((catL A).length + j) = if B = [] then none else some (catL (A ++ [x])).length := by
  unfold ns
  rw [z.ln.leE hj, z.len]
  cases B with
  | nil => rw [if_pos rfl, if_neg (by show ¬ _ < _ + 0; (clear hj; lia))]
  | cons b B =>
    have e : (tacL (b :: B)).length = b.length + 1 + (tacL B).length := by
      show ((10 :: b) ++ tacL B).length = _
      simp; (clear hj; lia)
    rw [if_neg (List.cons_ne_nil _ _), if_pos (by (clear hj; lia)), catL_app, catL_one, List.length_append, List.length_append]; rfl
theorem Zi.dropN {b : List Nat} {B' : List (List Nat)} (z : Zi cs A x (b :: B')) : (catL (A ++ [x])).length ≤ cs.length ∧ cs.drop (catL (A ++ [x])).length = joinL [10] (b :: B') := by
  have z' := z.next
  refine ⟨by rw [z'.len]; lia, ?_⟩
  rw [z'.e, List.append_assoc, List.drop_left]
  have := joinL_zip [] b B'
  rw [List.nil_append] at this
  rw [this]; rfl
theorem Zi.lbhE (z : Zi cs A x B) {j : Nat} (hj : j ≤ x.length) : lbh cs ((catL A).length + j) ≤ cs.length ∧ cs.drop (lbh cs ((catL A).length + j)) = joinL [10] B ∧ cs.take (lbh cs ((catL A).length + j)) = catL A ++ x ++ (if B = [] then [] else [10]) ∧ (le cs ((catL A).length + j) < lbh cs ((catL A).length + j) ↔ B ≠ []) := by
  unfold lbh
  rw [z.nsE hj, z.ln.leE hj]
  cases B with
  | nil =>
    rw [if_pos rfl, if_pos rfl]
    show cs.length ≤ cs.length ∧ cs.drop cs.length = [] ∧ cs.take cs.length = _ ∧ _
    refine ⟨Nat.le_refl _, List.drop_length, ?_, ?_⟩
    · rw [List.take_length]; have := z.e; rw [show tacL [] = [] from rfl] at this; exact this
    · have := z.len
      rw [show (tacL []).length = 0 from rfl] at this
      constructor
      · intro h; change _ < cs.length at h; (clear hj; lia)
      · intro h; exact absurd rfl h
  | cons b B =>
    rw [if_neg (List.cons_ne_nil _ _), if_neg (List.cons_ne_nil _ _)]
    show (catL (A ++ [x])).length ≤ _ ∧ cs.drop (catL (A ++ [x])).length = _ ∧ cs.take (catL (A ++ [x])).length = _ ∧ _
    refine ⟨z.dropN.1, z.dropN.2, ?_, ?_⟩
    · rw [z.next.e, List.append_assoc, List.take_left, catL_app, catL_one, List.append_assoc]
    · refine ⟨fun _ => List.cons_ne_nil _ _, fun _ => ?_⟩
      show _ < (catL (A ++ [x])).length
      rw [catL_app, catL_one, List.length_append, List.length_append]
      show _ < _ + (_ + 1); (clear hj; lia)
end
theorem behF_none (cs : List Nat) : ∀ k, behF cs k none = none
  | 0 => rfl
  | _ + 1 => rfl
theorem behF_zip {cs : List Nat} : ∀ (B : List (List Nat)) (A : List (List Nat)) (x : List Nat) (j k : Nat), Zi cs A x B → j ≤ x.length → B.length < k →
    (behF cs k (ns cs ((catL A).length + j)) = none ∧ dB B = []) ∨ ∃ q, behF cs k (ns cs ((catL A).length + j)) = some q ∧ q ≤ cs.length ∧ cs.drop q = joinL [10] (dB B)
  | [], A, x, j, k, z, hj, hk => by
    rw [z.nsE hj, if_pos rfl, behF_none]
    exact .inl ⟨rfl, rfl⟩
  | b :: B, A, x, j, 0, z, hj, hk => by (clear hj; lia)
  | b :: B, A, x, j, k + 1, z, hj, hk => by
    rw [z.nsE hj, if_neg (List.cons_ne_nil _ _)]
    rw [behF_s]
    have hb : blk cs (catL (A ++ [x])).length = bL b := z.next.ln.blkE (j := 0) (Nat.zero_le _)
    rw [hb]
    unfold dB
    rw [List.dropWhile_cons]
    cases q : bL b with
    | true =>
      rw [if_pos rfl, if_pos rfl]
      rw [List.length_cons] at hk
      exact behF_zip B (A ++ [x]) b 0 k z.next (Nat.zero_le _) (by (clear hj; lia))
    | false =>
      rw [if_neg Bool.false_ne_true, if_neg Bool.false_ne_true]
      exact .inr ⟨_, rfl, z.dropN⟩
section
variable {cs : List Nat} {A : List (List Nat)} {x : List Nat} {B : List (List Nat)}
theorem Zi.behE (z : Zi cs A x B) {j : Nat} (hj : j ≤ x.length) : beh cs ((catL A).length + j) ≤ cs.length ∧ cs.drop (beh cs ((catL A).length + j)) = joinL [10] (dB B) := by
  unfold beh
  have hl : B.length < cs.length + 1 := by have := (tacL_len B).1; have := z.len; (clear hj; lia)
  rcases behF_zip B A x j (cs.length + 1) z hj hl with ⟨h1, h2⟩ | ⟨q, h1, h2, h3⟩
  · rw [h1, h2]; exact ⟨Nat.le_refl _, List.drop_length⟩
  · rw [h1]; exact ⟨h2, h3⟩
end
theorem brF_zip {cs : List Nat} : ∀ (k : Nat) (A : List (List Nat)) (x : List Nat) (B : List (List Nat)), Zi cs A x B → A.length ≤ k → brF cs k (catL A).length = (catL (uA A)).length
  | 0, A, x, B, z, hk => by
    have : A = [] := List.eq_nil_of_length_eq_zero (by lia)
    subst this; rfl
  | k + 1, A, x, B, z, hk => by
    rcases nil_or_snoc A with rfl | ⟨A0, y, rfl⟩
    · rfl
    · rw [List.length_append] at hk
      have hk : A0.length + 1 ≤ k + 1 := hk
      have el : (catL (A0 ++ [y])).length = (catL A0).length + y.length + 1 := by
        rw [catL_app, catL_one, List.length_append, List.length_append]; rfl
      rw [brF_s]
      rw [el, decide_eq_true (by (clear el; lia)), Bool.true_and, Nat.add_sub_cancel, z.back.ln.blkE (Nat.le_refl _), z.back.ln.lsE (Nat.le_refl _), uA_snoc]
      cases q : bL y with
      | true => rw [if_pos rfl, if_pos rfl]; exact brF_zip k A0 y (x :: B) z.back (by lia)
      | false => rw [if_neg Bool.false_ne_true, if_neg Bool.false_ne_true, el]
theorem uA_pre (A : List (List Nat)) : ∃ r, A = uA A ++ r := by
  refine ⟨(A.reverse.takeWhile bL).reverse, ?_⟩
  unfold uA dB
  rw [← List.reverse_append, List.takeWhile_append_dropWhile, List.reverse_reverse]
theorem dB_suf (B : List (List Nat)) : ∃ r, B = r ++ dB B := ⟨B.takeWhile bL, (List.takeWhile_append_dropWhile).symm⟩
theorem dB_head {B : List (List Nat)} {b : List Nat} {r : List (List Nat)} (h : dB B = b :: r) : bL b = false := by
  unfold dB at h
  have := List.head?_dropWhile_not bL B
  rw [h] at this
  simpa using this
section
variable {cs : List Nat} {A : List (List Nat)} {x : List Nat} {B : List (List Nat)}
theorem Zi.brE (z : Zi cs A x B) {j : Nat} (hj : j ≤ x.length) : br cs ((catL A).length + j) = (catL (uA A)).length ∧ cs.take (br cs ((catL A).length + j)) = catL (uA A) ∧ (catL (uA A)).length ≤ (catL A).length := by
  have e : br cs ((catL A).length + j) = (catL (uA A)).length := by
    unfold br
    rw [z.ln.lsE hj]
    exact brF_zip _ A x B z (by have := (catL_len A).1; have := z.len; (clear hj; lia))
  obtain ⟨r, hr⟩ := uA_pre A
  refine ⟨e, ?_, ?_⟩
  · rw [e]
    conv => lhs; rw [z.e]
    conv => lhs; rw [hr, catL_app, List.append_assoc, List.append_assoc]
    rw [← hr]; exact List.take_left
  · conv => rhs; rw [hr]
    rw [catL_app, List.length_append]; (clear e hj; lia)
noncomputable def joinEd (cs : List Nat) (i : Nat) : Ed := if ls cs i = 0 then (0, 0, []) else (bb cs (ls cs i - 1), be cs (ls cs i), if ws cs (bb cs (ls cs i - 1)) (be cs (ls cs i)) then [32] else [])
theorem joinE_eq (f : Int) (cs : List Nat) (i : Nat) : joinE f cs i = edD f (joinEd cs i) := by
  unfold joinE joinEd
  split
  · rfl
  · cases ws cs (bb cs (ls cs i - 1)) (be cs (ls cs i)) <;> rfl
theorem edge_spc {P y x S : List Nat} (hP : P = [] ∨ P.getLast? = some 10) (hS : S = [] ∨ S.head? = some 10) (hy : 10 ∉ y) (hx : 10 ∉ x) : (if (!edge (P ++ y) (x ++ S)) = true then [32] else ([] : List Nat)) = spc y x := by
  have e1 : edge (P ++ y) (x ++ S) = decide (y = [] ∨ x = [] ∨ x.head? = some 41 ∨ y.getLast? = some 40 ∨ y.getLast? = some 39) := by
    have ey : (decide (P ++ y = []) || decide ((P ++ y).getLast? = some 10 ∨ (P ++ y).getLast? = some 40 ∨ (P ++ y).getLast? = some 39)) = decide (y = [] ∨ y.getLast? = some 40 ∨ y.getLast? = some 39) := by
      rcases nil_or_snoc y with rfl | ⟨y0, c, rfl⟩
      · rw [List.append_nil]
        rcases hP with rfl | h
        · rfl
        · rw [h]; simp
      · have hc : c ≠ 10 := fun e => hy (by rw [e]; simp)
        rw [← List.append_assoc, List.getLast?_append, List.getLast?_append]
        simp [hc]
    have ex : (decide (x ++ S = []) || decide ((x ++ S).head? = some 10 ∨ (x ++ S).head? = some 41)) = decide (x = [] ∨ x.head? = some 41) := by
      cases x with
      | nil =>
        rw [List.nil_append]
        rcases hS with rfl | h
        · rfl
        · rw [h]; simp
      | cons c r =>
        have hc : c ≠ 10 := fun e => hx (by rw [e]; simp)
        simp [hc]
    unfold edge
    rw [Bool.or_assoc (decide (P ++ y = []) || _), ey, ex, Bool.eq_iff_iff]
    simp only [Bool.or_eq_true, decide_eq_true_eq]
    constructor
    · rintro ((h | h | h) | (h | h))
      · exact .inl h
      · exact .inr (.inr (.inr (.inl h)))
      · exact .inr (.inr (.inr (.inr h)))
      · exact .inr (.inl h)
      · exact .inr (.inr (.inl h))
    · rintro (h | h | h | h | h)
      · exact .inl (.inl h)
      · exact .inr (.inl h)
      · exact .inr (.inr h)
      · exact .inl (.inr (.inl h))
      · exact .inl (.inr (.inr h))
  rw [e1]
  unfold spc
  by_cases q : y = [] ∨ x = [] ∨ x.head? = some 41 ∨ y.getLast? = some 40 ∨ y.getLast? = some 39
  · rw [decide_eq_true q, if_pos q]; rfl
  · rw [decide_eq_false q, if_neg q]; rfl
theorem mem_rst {l : List Nat} {c : Nat} (h : c ∈ rst l) : c ∈ l := by
  unfold rst at h
  have := (List.dropWhile_sublist isB).subset (List.mem_reverse.mp h)
  exact List.mem_reverse.mp this
theorem mem_lst {l : List Nat} {c : Nat} (h : c ∈ lst l) : c ∈ l := (List.dropWhile_sublist isB).subset h
theorem bb_len (cs : List Nat) {i : Nat} (h : i ≤ cs.length) : (rst (cs.take i)).length = bb cs i := by
  rw [← take_bb cs i h, List.length_take]; have := bb_le cs i; lia
theorem Zi.join (z : Zi cs A x B) (ha : ∀ i, i < cs.length → al (cAt cs i) = true) {j : Nat} (hj : j ≤ x.length) : apE cs (joinEd cs ((catL A).length + j)) = jnZ A x B := by
  unfold joinEd jnZ
  rw [z.ln.lsE hj]
  rcases nil_or_snoc A with rfl | ⟨A0, y, rfl⟩
  · show apE cs (0, 0, []) = _ 
    show cs.take 0 ++ [] ++ cs.drop 0 = catL [] ++ x ++ tacL B
    rw [← z.e]; simp
  · have el : (catL (A0 ++ [y])).length = (catL A0).length + y.length + 1 := by
      rw [catL_app, catL_one, List.length_append, List.length_append]; rfl
    have hlen := z.len
    rw [if_neg (by (clear hlen hj; lia)), List.getLast?_append]
    show apE cs _ = catL (A0 ++ [y]).dropLast ++ (rst y ++ spc (rst y) (lst x) ++ lst x) ++ tacL B
    rw [List.dropLast_concat]
    have ep : cs.take ((catL (A0 ++ [y])).length - 1) = catL A0 ++ y := by
      rw [el, Nat.add_sub_cancel, z.back.e]
      exact List.take_left' (by rw [List.length_append])
    have er : rst (cs.take ((catL (A0 ++ [y])).length - 1)) = catL A0 ++ rst y := by rw [ep, rst_app (catL_end A0)]
    have ed : lst (cs.drop (catL (A0 ++ [y])).length) = lst x ++ tacL B := by
      conv => lhs; rw [z.e, List.append_assoc, List.drop_left]
      exact lst_app (tacL_head B) x
    have hb := bb_le cs ((catL (A0 ++ [y])).length - 1)
    have he := be_bd cs (i := (catL (A0 ++ [y])).length) (by (clear hb el hj; lia))
    rw [ws_edge ha (by (clear he el hj; lia)) he.2, take_bb cs _ (by (clear hlen el hj; lia)), drop_be' cs (by (clear hb ed hlen el hj; lia)), er, ed,
      edge_spc (catL_end A0) (tacL_head B) (fun h => z.fr y (by simp) (mem_rst h)) (fun h => z.fr x (by simp) (mem_lst h))]
    show cs.take _ ++ _ ++ cs.drop _ = _
    rw [take_bb cs _ (by (clear hlen el hj; lia)), drop_be' cs (by (clear hb ed hlen el hj; lia)), er, ed]
    simp
end
noncomputable def bleE (cs : List Nat) (i : Nat) : List Ed := (bleL cs i).map fun p => (p.1, p.2, [])
theorem edL_eq (f : Int) (l : List (Nat × Nat)) : edL f l = (l.map fun p => ((p.1, p.2, []) : Ed)).map (edD f) := by
  rw [List.map_map]; rfl
theorem joinL_suf (r : List (List Nat)) (b : List Nat) (B : List (List Nat)) : joinL [10] (r ++ b :: B) = catL r ++ joinL [10] (b :: B) := by
  have := joinL_zip [] b B
  rw [List.nil_append] at this
  rw [joinL_zip, this, List.append_assoc]; rfl
theorem EdsOk.app {t : List Nat} {a b : List Ed} (h : EdsOk t a) (g : EdsOk (a.foldl apE t) b) : EdsOk t (a ++ b) := by
  induction a generalizing t with
  | nil => exact g
  | cons e a ih =>
    obtain ⟨h1, h2, h3, h4, h5, h6⟩ := h
    exact ⟨h1, h2, h3, h4, h5, ih h6 g⟩
theorem EdsOk.one {t : List Nat} {a b : Nat} (h1 : a ≤ t.length) (h2 : b ≤ t.length) (h3 : t.length ≤ 2000) : EdsOk t [(a, b, [])] := ⟨h1, h2, h3, Nat.zero_le _, fun c h => by (cases h), trivial⟩
theorem cut_eq (t : List Nat) (a b : Nat) : apE t (a, b, []) = t.take a ++ t.drop b := by show t.take a ++ [] ++ t.drop b = _; rw [List.append_nil]
theorem cut_if {t : List Nat} {a b : Nat} (h1 : a ≤ b) (h2 : b ≤ t.length) (h3 : t.length ≤ 2000) : EdsOk t ((if a < b then [(a, b)] else []).map fun p : Nat × Nat => ((p.1, p.2, []) : Ed)) ∧ ((if a < b then [(a, b)] else []).map fun p : Nat × Nat => ((p.1, p.2, []) : Ed)).foldl apE t = t.take a ++ t.drop b := by
  by_cases q : a < b
  · rw [if_pos q]
    exact ⟨EdsOk.one (by (clear q; lia)) h2 h3, cut_eq t a b⟩
  · rw [if_neg q]
    have : a = b := by lia
    subst this
    exact ⟨trivial, (List.take_append_drop a t).symm⟩
section
variable {cs : List Nat} {A : List (List Nat)} {x : List Nat} {B : List (List Nat)}
theorem Zi.ble (z : Zi cs A x B) {j : Nat} (hj : j ≤ x.length) (hl : cs.length ≤ 2000) : EdsOk cs (bleE cs ((catL A).length + j)) ∧ (bleE cs ((catL A).length + j)).foldl apE cs = wbZ A x B := by
  obtain ⟨l1, l2, l3, l4⟩ := z.lbhE hj
  obtain ⟨h1, h2⟩ := z.behE hj
  obtain ⟨b1, b2, b3⟩ := z.brE hj
  have hb := z.ln.blkE hj
  have hO := z.ln.lsE hj
  have hlen := z.len
  unfold bleE bleL wbZ
  rw [hb, hO]
  have hle := z.ln.leE hj
  generalize lbh cs ((catL A).length + j) = L at *
  generalize beh cs ((catL A).length + j) = H at *
  generalize br cs ((catL A).length + j) = F at *
  generalize le cs ((catL A).length + j) = E at *
  replace l4 : Unit → _ := fun _ => l4
  obtain ⟨rB, hrB⟩ := dB_suf B
  have lenL : cs.length - L = (joinL [10] B).length := by rw [← l2, List.length_drop]
  have lenH : cs.length - H = (joinL [10] (dB B)).length := by rw [← h2, List.length_drop]
  have lenL2 : L = (catL A).length + x.length + (if B = [] then ([] : List Nat) else [10]).length := by
    have := congrArg List.length l3
    rw [List.length_take, List.length_append, List.length_append] at this; (clear lenH lenL hle b1 h1 hlen hO b3 hj; lia)
  have hLH : L ≤ H := by
    have : (joinL [10] (dB B)).length ≤ (joinL [10] B).length := by
      cases q : dB B with
      | nil => exact Nat.zero_le _
      | cons b r =>
        conv => rhs; rw [hrB, q, joinL_suf, List.length_append]
        (clear lenL2 lenH lenL hle b1 h1 l1 hlen hO b3 hl hj; lia)
    (clear lenL2 hle b1 hlen hO b3 hj; lia)
  by_cases hx : bL x = false
  · rw [if_pos hx, if_pos hx]
    obtain ⟨c1, c2⟩ := cut_if hLH h1 hl
    refine ⟨c1, c2.trans ?_⟩
    rw [l3, h2]
    by_cases hB : dB B = []
    · rw [if_pos hB, hB, joinL_zip]
      show _ ++ [] = (catL A ++ x ++ []) ++ _
      rw [List.append_nil, List.append_nil]
    · rw [if_neg hB, show A ++ [x] ++ dB B = A ++ x :: dB B by simp, joinL_zip]
      obtain ⟨b, r, hbr⟩ : ∃ b r, dB B = b :: r := by cases q : dB B with | nil => exact absurd q hB | cons b r => exact ⟨b, r, rfl⟩
      have hB0 : B ≠ [] := by intro e; rw [e] at hB; exact hB rfl
      show _ = catL A ++ x ++ tacL (dB B)
      rw [if_neg hB0, hbr, tacL_join]; simp
  · rw [if_neg hx, if_neg hx]
    unfold wbT
    have hAl : Unit → ((uA A).length = A.length ↔ F = (catL A).length) := fun _ => by
      obtain ⟨r, hr⟩ := uA_pre A
      have e1 := congrArg List.length hr
      have e2 := congrArg (fun l => (catL l).length) hr
      simp only [catL_app, List.length_append] at e1 e2
      have := (catL_len r).1
      rw [b1]
      constructor
      · intro h
        have : r = [] := List.eq_nil_of_length_eq_zero (by (clear lenL2 lenH lenL hle b1 hlen hO b3 hj; lia))
        rw [this] at e2; rw [e2]; rfl
      · intro h; (clear lenL2 lenH lenL hle b1 hlen hO b3 hj; lia)
    have hBl : (dB B).length ≤ B.length := (List.dropWhile_sublist bL).length_le
    by_cases c1 : F = (catL A).length ∧ H = L
    · rw [if_pos c1]
      refine ⟨EdsOk.one (by (clear c1 hBl lenL2 lenH lenL hle hO b3 hj; lia)) l1 hl, ?_⟩
      show apE cs _ = _
      rw [cut_eq, ← c1.1, b2, ← c1.2, h2]
      have hA1 := (hAl ()).mpr c1.1
      by_cases hB : dB B = []
      · rw [if_pos hB, if_pos (by rw [hB, List.length_nil]; (clear hBl lenL2 lenH lenL hle hlen hO hj; lia)), hB]; rfl
      · rw [if_neg hB, if_pos, List.append_nil]
        refine ⟨hA1, ?_⟩
        obtain ⟨b, r, hbr⟩ : ∃ b r, dB B = b :: r := by cases q : dB B with | nil => exact absurd q hB | cons b r => exact ⟨b, r, rfl⟩
        have e1 : (joinL [10] B).length = (joinL [10] (dB B)).length := by rw [← lenL, ← lenH, c1.2]
        have e2 : (joinL [10] B).length = (catL rB).length + (joinL [10] (dB B)).length := by
          conv => lhs; rw [hrB, hbr, joinL_suf, List.length_append]
          rw [hbr]
        have := (catL_len rB).1
        have e3 := congrArg List.length hrB
        rw [List.length_append] at e3; (clear hA1 hBl lenL2 lenH lenL hle hlen hO hj; lia)
    · rw [if_neg c1]
      replace c1 : Unit → _ := fun _ => c1
      by_cases c2 : H = cs.length ∧ E < L
      · rw [if_pos c2]
        refine ⟨EdsOk.one (by (clear c2 hBl lenL2 lenH lenL hle h1 l1 hO hl hj; lia)) h1 hl, ?_⟩
        show apE cs _ = _
        rw [cut_eq, b2, h2]
        have hB0 := (l4 ()).mp c2.2
        have hB : dB B = [] := by
          cases q : dB B with
          | nil => rfl
          | cons b r =>
            have hb2 := dB_head q
            rw [q, c2.1, Nat.sub_self] at lenH
            have e2 := joinL_zip [] b r
            rw [List.nil_append] at e2
            rw [e2] at lenH
            have : b = [] := by
              cases b with
              | nil => rfl
              | cons c b => exact absurd lenH (by show ¬ 0 = _; simp)
            rw [this] at hb2; cases hb2
        rw [if_pos hB, if_pos, hB]
        · rfl
        · right; rw [hB]; exact List.length_pos_iff.mpr hB0
      · rw [if_neg c2, List.map_append]
        replace c2 : Unit → _ := fun _ => c2
        obtain ⟨k1, k2⟩ := cut_if hLH h1 hl
        have l5 : (cs.take L ++ cs.drop H).length ≤ cs.length := by rw [List.length_append, List.length_take, List.length_drop]; (clear hBl lenL2 lenH lenL hle b1 hlen hO b3 hj; lia)
        have l6 : (catL A).length ≤ (cs.take L ++ cs.drop H).length := by rw [List.length_append, List.length_take]; (clear l5 hBl lenH lenL hle b1 h1 hlen hO b3 hj; lia)
        obtain ⟨k3, k4⟩ := cut_if (t := cs.take L ++ cs.drop H) (show F ≤ (catL A).length by (clear hBl lenL2 lenH lenL h1 l1 hlen hO hl; lia)) l6 (by (clear hBl lenL2 lenH lenL hle b1 hlen hO b3 hj; lia))
        refine ⟨EdsOk.app k1 (by rw [k2]; exact k3), ?_⟩
        rw [List.foldl_append, k2, k4]
        have t1 : (cs.take L ++ cs.drop H).take F = catL (uA A) := by
          rw [List.take_append_of_le_length (by rw [List.length_take]; (clear hBl lenH lenL hle h1 hlen hO hl hj; lia)), List.take_take, show min F L = F by (clear hBl lenH lenL hle h1 l1 hlen hO hl hj; lia), b2]
        have t2 : (cs.take L ++ cs.drop H).drop (catL A).length = x ++ (if B = [] then [] else [10]) ++ joinL [10] (dB B) := by
          rw [l3, h2, List.append_assoc, List.append_assoc, List.drop_left, List.append_assoc]
        rw [t1, t2]
        by_cases hB : dB B = []
        · have hH : H = cs.length := by
            rw [hB] at lenH
            have : cs.length - H = 0 := lenH
            (clear hBl lenL2 lenH lenL hle b1 l1 hlen hO b3 hj; lia)
          have hB0 : B = [] := by
            apply Classical.byContradiction
            intro e
            exact c2 () ⟨hH, (l4 ()).mpr e⟩
          rw [if_pos hB0, if_pos hB, if_neg, hB]
          · show _ ++ ((x ++ []) ++ []) = _
            simp
          · rintro (⟨e, _⟩ | e)
            · refine c1 () ⟨(hAl ()).mp e, ?_⟩
              rw [hB0] at lenL
              have : cs.length - L = 0 := lenL
              (clear lenL2 lenH lenL hle b1 l1 hlen hO b3 hj; lia)
            · rw [hB0] at e; exact absurd e (Nat.not_lt_zero _)
        · have hB0 : B ≠ [] := by intro e; rw [e] at hB; exact hB rfl
          rw [if_neg hB0, if_neg hB, if_neg]
          · simp
          · rintro ⟨e1, e2⟩
            refine c1 () ⟨(hAl ()).mp e1, ?_⟩
            have : dB B = B := (List.dropWhile_sublist bL).eq_of_length e2
            rw [this] at lenH; (clear e1 hLH lenL2 hle b1 hlen hO b3 hj; lia)
end
noncomputable def cutE (p : Nat × Nat) : Ed := (p.1, p.2, [])
noncomputable def seg (cs : List Nat) (p b : Nat) : List Nat := (cs.drop p).take (b - p)
noncomputable def duP (c : Bool) (parts : List (List Nat)) : List Nat := joinL [10] (parts.dropLast.map rst ++ [if c then rst (parts.getLast?.getD []) else parts.getLast?.getD []])
theorem duP_one (c : Bool) (s : List Nat) : duP c [s] = if c then rst s else s := rfl
theorem duP_cons (c : Bool) (s a : List Nat) (r : List (List Nat)) : duP c (s :: a :: r) = rst s ++ [10] ++ duP c (a :: r) := by
  unfold duP
  have : ∀ (l : List (List Nat)) (z : List Nat), joinL [10] (rst s :: l ++ [z]) = rst s ++ [10] ++ joinL [10] (l ++ [z]) := by
    intro l z
    cases l <;> rfl
  exact this _ _
theorem le_spec (cs : List Nat) : ∀ (n p : Nat), p + n = cs.length → p ≤ le cs p ∧ le cs p ≤ cs.length ∧ (∀ j, p ≤ j → j < le cs p → cAt cs j ≠ 10) ∧ (le cs p = cs.length ∨ cAt cs (le cs p) = 10)
  | 0, p, h => by
    rw [le_stop cs (by lia) (.inl (by lia))]
    exact ⟨Nat.le_refl _, by lia, fun j h1 h2 => by (clear h; lia), .inl (by lia)⟩
  | n + 1, p, h => by
    by_cases q : cAt cs p = 10
    · rw [le_stop cs (by lia) (.inr q)]
      exact ⟨Nat.le_refl _, by lia, fun j h1 h2 => by (clear q h; lia), .inr q⟩
    · rw [le_step cs (by lia) q]
      obtain ⟨h1, h2, h3, h4⟩ := le_spec cs n (p + 1) (by lia)
      refine ⟨by (clear h; lia), h2, fun j g1 g2 => ?_, h4⟩
      by_cases e : j = p
      · rw [e]; exact q
      · exact h3 j (by (clear h; lia)) g2
theorem seg_split {cs : List Nat} {p q b : Nat} (h1 : p ≤ q) (h2 : q < b) (h3 : b ≤ cs.length) : seg cs p b = seg cs p q ++ cAt cs q :: seg cs (q + 1) b := by
  unfold seg
  rw [show b - p = (q - p) + ((b - q - 1) + 1) by (clear h3; lia), List.take_add, List.drop_drop, show p + (q - p) = q by (clear h3 h2; lia), drop_c (show q < cs.length by (clear h1; lia)), List.take_succ_cons, show b - (q + 1) = b - q - 1 by (clear h3 h2 h1; lia)]
theorem take_seg {cs : List Nat} {p q : Nat} (h1 : p ≤ q) : cs.take q = cs.take p ++ seg cs p q := by
  unfold seg
  conv => lhs; rw [show q = p + (q - p) by lia]
  exact List.take_add
theorem mem_seg {cs : List Nat} {p b c : Nat} (h3 : b ≤ cs.length) (h : c ∈ seg cs p b) : ∃ j, p ≤ j ∧ j < b ∧ cAt cs j = c := by
  unfold seg at h
  obtain ⟨i, hi⟩ := List.getElem?_of_mem h
  have hl := (List.getElem?_eq_some_iff.mp hi).1
  rw [List.length_take, List.length_drop] at hl
  rw [List.getElem?_take, if_pos (by lia), List.getElem?_drop] at hi
  refine ⟨p + i, by (clear hl h3; lia), by (clear h3; lia), ?_⟩
  rw [cAt_get (by lia)] at hi
  exact Option.some.inj hi
theorem rst_gen (P y : List Nat) : rst (P ++ y) = if rst y = [] then rst P else P ++ rst y := by
  unfold rst
  rw [List.reverse_append, List.dropWhile_append]
  cases q : y.reverse.dropWhile isB with
  | nil => rfl
  | cons a r => rw [if_neg (by simp), if_neg (by simp)]; simp
theorem mx {cs : List Nat} {a p q : Nat} (h1 : a ≤ p) (h2 : p ≤ q) (h3 : q ≤ cs.length) (hp : p = a ∨ (0 < p ∧ cAt cs (p - 1) = 10)) : cs.take (max a (bb cs q)) = cs.take p ++ rst (seg cs p q) := by
  have e := take_bb cs q h3
  have l := bb_len cs h3
  rw [take_seg (cs := cs) h2] at e l
  have lp : (cs.take p).length = p := by rw [List.length_take]; (clear l h1; lia)
  rcases hp with rfl | ⟨h0, hc⟩
  · rw [rst_gen] at e l
    by_cases z : rst (seg cs p q) = []
    · rw [if_pos z] at e l
      have := rst_len (cs.take p)
      rw [show max p (bb cs q) = p by (clear h3 h2; lia), z, List.append_nil]
    · rw [if_neg z] at e l
      rw [List.length_append] at l
      rw [show max p (bb cs q) = bb cs q by (clear h3 h2; lia)]; exact e
  · rw [rst_app (.inr (by rw [last_take (by (clear lp l h1; lia)) h0, hc]))] at e l
    rw [List.length_append] at l
    rw [show max a (bb cs q) = bb cs q by (clear hc h3 h2; lia)]; exact e
theorem cut_len {t : List Nat} {a b : Nat} (h : a ≤ b) : (t.take a ++ t.drop b).length ≤ t.length := by
  rw [List.length_append, List.length_take, List.length_drop]; lia
theorem te_main (cs : List Nat) (a b : Nat) (hb : b ≤ cs.length) (hl : cs.length ≤ 2000) : ∀ (k p : Nat), a ≤ p → p ≤ b → (p = a ∨ (0 < p ∧ cAt cs (p - 1) = 10)) → cs.length < le cs p + k →
    EdsOk cs ((teF cs a b k (le cs p)).map cutE).reverse ∧ ((teF cs a b k (le cs p)).map cutE).reverse.foldl apE cs = cs.take p ++ duP (ile cs b) (splitNL (seg cs p b)) ++ cs.drop b ∧ (((teF cs a b k (le cs p)).map cutE).reverse.foldl apE cs).length ≤ cs.length
  | 0, p, h1, h2, h3, h4 => by have := le_bd cs (show p ≤ cs.length by lia); (clear h1; lia)
  | k + 1, p, h1, h2, h3, h4 => by
    obtain ⟨s1, s2, s3, s4⟩ := le_spec cs (cs.length - p) p (by (clear h4 h1 hl; lia))
    generalize hq : le cs p = q at *
    have hbb := bb_le cs q
    have hm : max a (bb cs q) ≤ q := by (clear h4 hq h2 hb; lia)
    have split_e : ∀ r : List (Nat × Nat), (((if max a (bb cs q) < q then [(max a (bb cs q), q)] else []) ++ r).map cutE).reverse = (r.map cutE).reverse ++ (if max a (bb cs q) < q then [(max a (bb cs q), q)] else []).map cutE := by
      intro r
      rw [List.map_append, List.reverse_append]
      congr 1
      split <;> rfl
    have last : q = b → EdsOk cs (((if max a (bb cs q) < q then [(max a (bb cs q), q)] else [])).map cutE).reverse ∧ (((if max a (bb cs q) < q then [(max a (bb cs q), q)] else [])).map cutE).reverse.foldl apE cs = cs.take p ++ duP (ile cs b) (splitNL (seg cs p b)) ++ cs.drop b ∧ ((((if max a (bb cs q) < q then [(max a (bb cs q), q)] else [])).map cutE).reverse.foldl apE cs).length ≤ cs.length := by
      intro e
      have e2 := split_e []
      rw [List.append_nil] at e2
      rw [e2]
      obtain ⟨c1, c2⟩ := cut_if hm s2 hl
      have c2' : ((if max a (bb cs q) < q then [(max a (bb cs q), q)] else []).map cutE).foldl apE cs = cs.take (max a (bb cs q)) ++ cs.drop q := c2
      refine ⟨c1, ?_, ?_⟩
      · show List.foldl apE cs ([] ++ _) = _
        rw [List.nil_append, c2', mx h1 s1 s2 h3]
        subst e
        have hi : ile cs q = true := by
          unfold ile
          rcases s4 with e | e
          · rw [decide_eq_true e]; rfl
          · rw [decide_eq_true e, Bool.or_true]
        rw [hi, split_free_one (fun hm => by obtain ⟨j, j1, j2, j3⟩ := mem_seg s2 hm; exact s3 j j1 j2 j3), duP_one]; rfl
      · show (List.foldl apE cs ([] ++ _)).length ≤ _
        rw [List.nil_append, c2']; exact cut_len hm
    rw [teF_s]
    by_cases hqb : q ≤ b
    · rw [if_pos hqb]
      by_cases hql : q < cs.length
      · rw [if_pos hql]
        have hc : cAt cs q = 10 := by rcases s4 with e | e; (clear hm h4 hq h1; lia); exact e
        by_cases hqb2 : q < b
        · have hle := le_bd cs (show q + 1 ≤ cs.length by (clear hm h4 hq h1; lia))
          obtain ⟨i1, i2, i3⟩ := te_main cs a b hb hl k (q + 1) (by (clear hm h4 hq hb; lia)) (by (clear hm h4 hq h1; lia)) (.inr ⟨by (clear hm h4 hq h1; lia), hc⟩) (by (clear hc hm hbb hq h1; lia))
          rw [split_e]
          have lR : q ≤ (((teF cs a b k (le cs (q + 1))).map cutE).reverse.foldl apE cs).length := by
            rw [i2, List.length_append, List.length_append, List.length_take]; (clear i3 hle hc hm hbb h4 hq h1; lia)
          obtain ⟨c1, c2⟩ := cut_if (t := ((teF cs a b k (le cs (q + 1))).map cutE).reverse.foldl apE cs) hm lR (by (clear hle hc hm hbb h4 hq h1; lia))
          have c2' : ((if max a (bb cs q) < q then [(max a (bb cs q), q)] else []).map cutE).foldl apE (((teF cs a b k (le cs (q + 1))).map cutE).reverse.foldl apE cs) = _ := c2
          refine ⟨EdsOk.app i1 c1, ?_, ?_⟩
          · rw [List.foldl_append, c2', i2]
            rw [List.append_assoc, List.take_append_of_le_length (by rw [List.length_take]; (clear hle hc hbb h4 hq h1; lia)), List.take_take, show min (max a (bb cs q)) (q + 1) = max a (bb cs q) by (clear hle hc hbb h4 hq h1; lia), mx h1 s1 s2 h3]
            rw [List.drop_append_of_le_length (by rw [List.length_take]; (clear hle hc hm hbb h4 hq h1; lia)), take_succ_c hql, List.drop_left' (by rw [List.length_take]; (clear hle hc hm hbb h4 hq h1; lia))]
            rw [seg_split s1 hqb2 hb, hc, split_append (fun hm => by obtain ⟨j, j1, j2, j3⟩ := mem_seg s2 hm; exact s3 j j1 j2 j3)]
            obtain ⟨x, r, e⟩ : ∃ x r, splitNL (seg cs (q + 1) b) = x :: r := by cases q2 : splitNL (seg cs (q + 1) b) with | nil => exact absurd q2 (splitNL_ne _) | cons x r => exact ⟨x, r, rfl⟩
            rw [e, duP_cons]; simp
          · rw [List.foldl_append, c2']
            exact Nat.le_trans (cut_len hm) i3
        · have e : q = b := by (clear hm h4 hq h1; lia)
          have hle := le_bd cs (show q + 1 ≤ cs.length by lia)
          have : teF cs a b k (le cs (q + 1)) = [] := by
            cases k with
            | zero => rfl
            | succ k => rw [teF_s, if_neg (by (clear h4 hqb2 hc hm hbb hq h1; lia))]
          rw [this, List.append_nil]
          exact last e
      · rw [if_neg hql, List.append_nil]
        exact last (by (clear hm s2 h4 hq h1; lia))
    · rw [if_neg hqb]
      have hi : ile cs b = false := by
        unfold ile
        rw [decide_eq_false (by (clear hm h4 hq h1; lia)), decide_eq_false (s3 b h2 (by (clear hm h4 hq h1; lia)))]; rfl
      have e : cs.take p ++ duP (ile cs b) (splitNL (seg cs p b)) ++ cs.drop b = cs := by
        rw [hi, split_free_one (fun hm => by obtain ⟨j, j1, j2, j3⟩ := mem_seg hb hm; exact s3 j j1 (by (clear hbb s2 h4 hq h1; lia)) j3), duP_one]
        show cs.take p ++ seg cs p b ++ cs.drop b = cs
        rw [← take_seg h2, List.take_append_drop]
      rw [e]
      exact ⟨trivial, rfl, Nat.le_refl _⟩
theorem te_law (cs : List Nat) {a b : Nat} (ha : a ≤ b) (hb : b ≤ cs.length) (hl : cs.length ≤ 2000) : EdsOk cs ((teL cs a b).map cutE) ∧ ((teL cs a b).map cutE).foldl apE cs = cs.take a ++ duP (ile cs b) (splitNL (seg cs a b)) ++ cs.drop b := by
  unfold teL
  rw [List.map_reverse]
  obtain ⟨h1, h2, _⟩ := te_main cs a b hb hl (cs.length + 1) a (Nat.le_refl _) ha (.inl rfl) (by (clear ha; lia))
  exact ⟨h1, h2⟩
theorem count_free {u : List Nat} (h : 10 ∉ u) : u.count 10 = 0 := List.count_eq_zero.mpr h
theorem count_catL : ∀ {A : List (List Nat)}, (∀ a ∈ A, 10 ∉ a) → (catL A).count 10 = A.length
  | [], _ => rfl
  | a :: A, h => by
    show ((a ++ [10]) ++ catL A).count 10 = _
    rw [List.count_append, List.count_append, count_catL (fun b hb => h b (.tail _ hb)), count_free (h a (.head _)), List.length_cons]
    show 0 + 1 + _ = _; lia
theorem zi_of (cs : List Nat) {o : Nat} (h : o ≤ cs.length) : ∃ A u v B, Zi cs A (u ++ v) B ∧ o = (catL A).length + u.length ∧ (cs.take o).count 10 = A.length ∧ splitNL (cs.take o) = A ++ [u] := by
  obtain ⟨A, u, hA⟩ : ∃ A u, splitNL (cs.take o) = A ++ [u] := by
    rcases nil_or_snoc (splitNL (cs.take o)) with e | e
    · exact absurd e (splitNL_ne _)
    · exact e
  obtain ⟨v, B, hB⟩ : ∃ v B, splitNL (cs.drop o) = v :: B := by
    cases q : splitNL (cs.drop o) with
    | nil => exact absurd q (splitNL_ne _)
    | cons v B => exact ⟨v, B, rfl⟩
  have e1 := join_splitNL (cs.take o)
  have e2 := join_splitNL (cs.drop o)
  have f1 := free_splitNL (cs.take o)
  have f2 := free_splitNL (cs.drop o)
  rw [hA] at e1 f1
  rw [hB] at e2 f2
  rw [joinL_zip] at e1
  have e2' := joinL_zip [] v B
  rw [List.nil_append] at e2'
  rw [e2'] at e2
  have e1 : catL A ++ u = cs.take o := by rw [← e1]; show _ = _ ++ []; rw [List.append_nil]
  have e2 : v ++ tacL B = cs.drop o := e2
  refine ⟨A, u, v, B, ⟨?_, ?_⟩, ?_, ?_, hA⟩
  · rw [← List.take_append_drop o cs, ← e1, ← e2]; simp
  · intro a ha
    rcases List.mem_append.mp ha with ha | ha
    · exact f1 a (List.mem_append_left _ ha)
    · rcases List.mem_cons.mp ha with rfl | ha
      · intro hm
        rcases List.mem_append.mp hm with hm | hm
        · exact f1 u (by simp) hm
        · exact f2 v (by simp) hm
      · exact f2 a (.tail _ ha)
  · have := congrArg List.length e1
    rw [List.length_append, List.length_take] at this; lia
  · rw [← e1, List.count_append, count_free (f1 u (by simp)), count_catL fun a ha => f1 a (by simp [ha])]; rfl
theorem lnOf_law (cs : List Nat) {p : Nat} (h : p ≤ cs.length) : (splitNL (cs.take p)).getLast? = some (lnOf cs p) := by
  obtain ⟨A, u, v, B, z, ho, _, hs⟩ := zi_of cs h
  rw [hs, List.getLast?_append]
  show some u = _
  unfold lnOf
  rw [ho, z.ln.lsE (by rw [List.length_append]; (clear ho h; lia)), Nat.add_sub_cancel_left]
  conv => rhs; rw [z.e, List.append_assoc, List.drop_left, List.append_assoc, List.take_left]
noncomputable def isA (cs : List Nat) (i : Nat) : Bool := decide (cAt cs i = 97)
noncomputable def hitsF (cs : List Nat) (o : Nat) : List Nat := ((List.range (cs.length - o)).filter fun i => isA cs (o + i)).map (o + ·)
noncomputable def hitsB (cs : List Nat) (o : Nat) : List Nat := (List.range o).filter (isA cs)
theorem hitsF_rec (cs : List Nat) : ∀ (n i : Nat), i + n = cs.length → hitsF cs i = if sk cs 97 i = cs.length then [] else sk cs 97 i :: hitsF cs (sk cs 97 i + 1)
  | 0, i, h => by
    rw [sk_stop cs 97 (by lia) (.inl (by lia)), if_pos (by lia)]
    unfold hitsF
    rw [show cs.length - i = 0 by lia]; rfl
  | n + 1, i, h => by
    have e : hitsF cs i = if isA cs i then i :: hitsF cs (i + 1) else hitsF cs (i + 1) := by
      unfold hitsF
      rw [show cs.length - i = (cs.length - (i + 1)) + 1 by lia, List.range_succ_eq_map, List.filter_cons, List.filter_map]
      have e2 : ((List.range (cs.length - (i + 1))).filter ((fun j => isA cs (i + j)) ∘ Nat.succ)) = (List.range (cs.length - (i + 1))).filter fun j => isA cs (i + 1 + j) := by
        apply List.filter_congr
        intro j _
        show isA cs (i + (j + 1)) = _
        rw [show i + (j + 1) = i + 1 + j by (clear h; lia)]
      rw [e2]
      rw [show isA cs (i + 0) = isA cs i by rw [Nat.add_zero]]
      have e3 : ∀ l : List Nat, (l.map Nat.succ).map (i + ·) = l.map (i + 1 + ·) := by
        intro l
        rw [List.map_map]
        apply List.map_congr_left
        intro j _
        show i + (j + 1) = _; (clear h; lia)
      split
      · rw [List.map_cons, e3]; rfl
      · rw [e3]
    rw [e]
    by_cases q : cAt cs i = 97
    · rw [show isA cs i = true from decide_eq_true q, if_pos rfl, sk_stop cs 97 (by lia) (.inr q), if_neg (by lia)]
    · rw [show isA cs i = false from decide_eq_false q, if_neg Bool.false_ne_true, sk_step cs 97 (by lia) q]
      exact hitsF_rec cs n (i + 1) (by lia)
theorem zf_law (cs : List Nat) {o : Nat} (h : o ≤ cs.length) : zfF cs 97 2 o = match hitsF cs o with | _ :: b :: _ => some (b + 1) | _ => none := by
  rw [hitsF_rec cs (cs.length - o) o (by lia)]
  rw [zfF_s]
  have h1 := sk_bd cs 97 h
  by_cases q : sk cs 97 o = cs.length
  · rw [if_pos q, if_pos q]
  · rw [if_neg q, if_neg q, hitsF_rec cs (cs.length - (sk cs 97 o + 1)) _ (by lia)]
    rw [zfF_s]
    by_cases q2 : sk cs 97 (sk cs 97 o + 1) = cs.length
    · rw [if_pos q2, if_pos q2]
    · rw [if_neg q2, if_neg q2]; rfl
theorem bk_law (cs : List Nat) : ∀ o, (hitsB cs o).getLast? = bkF cs 97 o
  | 0 => rfl
  | o + 1 => by
    unfold hitsB bkF
    rw [List.range_succ, List.filter_append]
    by_cases q : cAt cs o = 97
    · rw [if_pos q, show [o].filter (isA cs) = [o] by rw [List.filter_cons, if_pos (show isA cs o = true from decide_eq_true q)]; rfl, List.getLast?_append]; rfl
    · rw [if_neg q, show [o].filter (isA cs) = [] by rw [List.filter_cons, if_neg (by rw [show isA cs o = false from decide_eq_false q]; exact Bool.false_ne_true)]; rfl, List.append_nil]
      exact bk_law cs o
theorem zb_law (cs : List Nat) (o : Nat) : zbF cs 97 1 o = bkF cs 97 o := by
  show (match bkF cs 97 o with | none => none | some j => some j) = _
  cases bkF cs 97 o <;> rfl
theorem Zi.toZp {cs : List Nat} {A : List (List Nat)} {x : List Nat} {B : List (List Nat)} (z : Zi cs A x B) {n : Nat} (h1 : cs.length ≤ n) (h2 : n ≤ 1000) (h3 : ∀ c ∈ cs, c < 1114112) : Zp cs A x B n := ⟨z.e, z.fr, h1, h2, h3⟩
noncomputable def sp_TextRow (ds : List D) (μ : Mem) (k : KE) : Prop := ∃ (cs : List Nat) (f : Int), (ds = [.list (cs.map fun c => .int ((c : Nat) : Int)), .int f] ∨ (ds = [.list (cs.map fun c => .int ((c : Nat) : Int))] ∧ f = 1)) ∧ cs.length ≤ 4000 ∧ k (VW cs f) μ
structure Sps (G GM : Nat → List D → Mem → KE → Prop) : Prop where
  c11 : AllSp G 11 sp_horizontal
  c12 : AllSp G 12 sp_just
  c14 : AllSp G 14 sp_fixup
  c15 : AllSp G 15 sp_join
  c19 : AllSp G 19 sp_ble
  c20 : AllSp G 20 sp_trailing
  c22 : AllSp G 22 sp_backward
  c23 : AllSp G 23 sp_zap
  c27 : AllSp G 27 sp_table
  c28 : AllSp G 28 sp_draw
  c29 : AllSp G 29 sp_deck
  c30 : AllSp G 30 sp_one
  c32 : AllSp G 32 sp_done
  c34 : AllSp G 34 sp_wb
  c35 : AllSp G 35 sp_joined
  c36 : AllSp G 36 sp_around
  c37 : AllSp G 37 sp_TextRow
structure LX (cs : List Nat) (f : Int) (o : Nat) : Prop where
  tx : Tx cs f
  n : cs.length ≤ 100
  o : o ≤ cs.length
structure Iv (a r : Addr) (μ : Mem) : Prop where
  d : DeckM μ a
  t : TabM μ r
  ne : a ≠ r
theorem Iv.up {a r : Addr} {μ μ' : Mem} (h : Iv a r μ) (u : Up a μ μ') : Iv a r μ' := by
  obtain ⟨kvs, h1, h2⟩ := h.t
  exact ⟨u.d, ⟨kvs, by rw [u.o r fun e => h.ne e.symm]; exact h1, h2⟩, h.ne⟩
theorem Iv.cons {a r b : Addr} {μ : Mem} {x : MO} (h : Iv a r μ) (hb : lookM μ b = none) : Iv a r ((b, x) :: μ) := by
  obtain ⟨kvs, h1, h2⟩ := h.t
  obtain ⟨xs, h3, h4⟩ := h.d
  refine ⟨⟨xs, h3, ?_⟩, ⟨kvs, ?_, h2⟩, h.ne⟩
  · rw [look_ne (fun e => by rw [e, h4] at hb; cases hb)]; exact h4
  · rw [look_ne (fun e => by rw [e, h1] at hb; cases hb)]; exact h1
theorem ite_no {b : Bool} {P Q : Prop} (h : b = false) (q : Q) : (b = true → P) ∧ (b = false → Q) := ⟨fun e => (by rw [h] at e; cases e), fun _ => q⟩
theorem ite_yes {b : Bool} {P Q : Prop} (h : b = true) (q : P) : (b = true → P) ∧ (b = false → Q) := ⟨fun _ => q, fun e => by rw [h] at e; cases e⟩
theorem ne_S8 {a b : List Nat} (h : a = b) : (S8 a != S8 b) = false := by rw [h]; simp
section
variable {G GM : Nat → List D → Mem → KE → Prop} {cs : List Nat} {f : Int} {i : Nat} {μ : Mem} {k : KE}
theorem AllSp.dn (h : AllSp G 32 sp_done) {t : List Nat} {f : Int} {es : List Ed} {l : List D} (hl : l = es.map (edD f)) (hn : es.length ≤ 2000) (hok : EdsOk t es) {res : List Nat} (hr : es.foldl apE t = res) (hk : k (.str (S8 res)) μ) : G 32 [.str (S8 t), .list l, .int f] μ k :=
  h _ _ _ ⟨t, f, es, by rw [hl], hn, hok, by rw [hr]; exact hk⟩
theorem LX.chars {o : Nat} (h : LX cs f o) : ∀ c ∈ cs, c < 1114112 := by
  intro c hc
  obtain ⟨i, hi⟩ := List.getElem?_of_mem hc
  have hl := (List.getElem?_eq_some_iff.mp hi).1
  rw [cAt_get hl] at hi
  have e := Option.some.inj hi
  have := al_cases (h.tx.al i hl)
  (clear hl; lia)
theorem EdsOk.ins {t : List Nat} {a b : Nat} {l : List Nat} (h1 : a ≤ t.length) (h2 : b ≤ t.length) (h3 : t.length ≤ 2000) (h4 : l.length ≤ 2000) (h5 : ∀ c ∈ l, c = 32) : EdsOk t [(a, b, l)] := ⟨h1, h2, h3, h4, fun c h => by have := h5 c h; (clear h4 h2 h1; lia), trivial⟩
end
noncomputable def bdL : List MS := match ms_law with
  | [_, .forr _ _ b, _, _] => b
  | _ => []
section
variable {G GM : Nat → List D → Mem → KE → Prop} (g : Sps G GM) {K : KS} {sc x3 x4 x5 x6 x7 x8 x9 x10 x11 x12 x13 x14 x15 x16 x17 x18 x19 x20 x21 x22 x23 x24 : D} {a r : Addr} {μ : Mem} {cs : List Nat} {f : Int} {o : Nat}
include g
theorem law_3 (h : LX cs f o) (tail : vcSs (Γ0 G GM) (bdL.drop 4) [sc, .mref a, TB r, x3, .str (S8 cs), .int f, .int ((o : Nat) : Int), VW cs f, .int (f + ((o : Nat) : Int)), x9, x10, x11, x12, x13, x14, x15, x16, x17, x18, x19, x20, x21, x22, x23, x24] μ K) : vcSs (Γ0 G GM) (bdL.drop 3) [sc, .mref a, TB r, x3, .str (S8 cs), .int f, .int ((o : Nat) : Int), VW cs f, .int (f + ((o : Nat) : Int)), x9, x10, x11, x12, x13, x14, x15, x16, x17, x18, x19, x20, x21, x22, x23, x24] μ K := by
  obtain ⟨A, u, v, B, z, ho, hc, hs⟩ := zi_of cs h.o
  obtain ⟨b1, b2⟩ := z.ble (j := u.length) (by rw [List.length_append]; (clear hc ho; lia)) (by have := h.n; (clear hc ho; lia))
  rw [← ho] at b1 b2
  refine g.c19 _ _ _ ⟨cs, f, o, rfl, h.tx.toSm, h.o, (g.c32.dn (es := bleE cs o) (edL_eq f _) ?_ b1 b2 ?_)⟩
  · unfold bleE bleL
    rw [List.length_map]
    split
    · split <;> simp
    · split
      · simp
      · split
        · simp
        · rw [List.length_append]
          have t1 : ∀ (c : Prop) [Decidable c] (p : Nat × Nat), (if c then [p] else []).length ≤ 1 := by intro c _ p; split <;> simp
          have := t1 (lbh cs o < beh cs o) (lbh cs o, beh cs o)
          have := t1 (br cs o < ls cs o) (br cs o, ls cs o)
          (clear hc ho; lia)
  refine g.c34 _ _ _ ⟨cs, A, u ++ v, B, o, 100, rfl, z.toZp h.n (by decide) h.chars, h.o, hc, ?_⟩
  exact ite_no (ne_S8 rfl) tail
theorem law_4 (h : LX cs f o) (tail : vcSs (Γ0 G GM) (bdL.drop 5) [sc, .mref a, TB r, x3, .str (S8 cs), .int f, .int ((o : Nat) : Int), VW cs f, .int (f + ((o : Nat) : Int)), .str (S8 (rst (cs.take o))), .str (S8 (lst (cs.drop o))), x11, x12, x13, x14, x15, x16, x17, x18, x19, x20, x21, x22, x23, x24] μ K) : vcSs (Γ0 G GM) (bdL.drop 4) [sc, .mref a, TB r, x3, .str (S8 cs), .int f, .int ((o : Nat) : Int), VW cs f, .int (f + ((o : Nat) : Int)), x9, x10, x11, x12, x13, x14, x15, x16, x17, x18, x19, x20, x21, x22, x23, x24] μ K := by
  refine g.c36 _ _ _ ⟨cs, o, rfl, h.o, by have := h.n; lia, ?_⟩
  exact tail
theorem law_5 (h : LX cs f o) (tail : vcSs (Γ0 G GM) (bdL.drop 6) [sc, .mref a, TB r, x3, .str (S8 cs), .int f, .int ((o : Nat) : Int), VW cs f, .int (f + ((o : Nat) : Int)), .str (S8 (rst (cs.take o))), .str (S8 (lst (cs.drop o))), x11, x12, x13, x14, x15, x16, x17, x18, x19, x20, x21, x22, x23, x24] μ K) : vcSs (Γ0 G GM) (bdL.drop 5) [sc, .mref a, TB r, x3, .str (S8 cs), .int f, .int ((o : Nat) : Int), VW cs f, .int (f + ((o : Nat) : Int)), .str (S8 (rst (cs.take o))), .str (S8 (lst (cs.drop o))), x11, x12, x13, x14, x15, x16, x17, x18, x19, x20, x21, x22, x23, x24] μ K := by
  have hn := h.n; have hb := bb_le cs o; have he := be_bd cs h.o; have ho := h.o
  have l1 := rst_len (cs.take o); have l2 := lst_len (cs.drop o)
  rw [List.length_take] at l1; rw [List.length_drop] at l2
  refine g.c11 _ _ _ ⟨cs, f, o, false, rfl, h.tx.toSm, h.o, (g.c32.dn (es := [(bb cs o, be cs o, [])]) rfl (of_decide_eq_true rfl) (EdsOk.one (by (clear l2 l1 he; lia)) he.2 (by (clear l2 l1; lia))) (edit_both cs h.o []) ?_)⟩
  refine And.intro (S8_add (n := 300) (by (clear he hb; lia)) (by decide)) ?_
  rw [S8_app]
  exact ite_no (ne_S8 (by rw [List.append_nil])) tail
theorem law_6 (h : LX cs f o) (tail : vcSs (Γ0 G GM) (bdL.drop 7) [sc, .mref a, TB r, x3, .str (S8 cs), .int f, .int ((o : Nat) : Int), VW cs f, .int (f + ((o : Nat) : Int)), .str (S8 (rst (cs.take o))), .str (S8 (lst (cs.drop o))), x11, x12, x13, x14, x15, x16, x17, x18, x19, x20, x21, x22, x23, x24] μ K) : vcSs (Γ0 G GM) (bdL.drop 6) [sc, .mref a, TB r, x3, .str (S8 cs), .int f, .int ((o : Nat) : Int), VW cs f, .int (f + ((o : Nat) : Int)), .str (S8 (rst (cs.take o))), .str (S8 (lst (cs.drop o))), x11, x12, x13, x14, x15, x16, x17, x18, x19, x20, x21, x22, x23, x24] μ K := by
  have hn := h.n; have hb := bb_le cs o; have he := be_bd cs h.o; have ho := h.o
  have l1 := rst_len (cs.take o); have l2 := lst_len (cs.drop o)
  rw [List.length_take] at l1; rw [List.length_drop] at l2
  refine g.c11 _ _ _ ⟨cs, f, o, true, rfl, h.tx.toSm, h.o, (g.c32.dn (es := [(bb cs o, o, [])]) rfl (of_decide_eq_true rfl) (EdsOk.one (by lia) h.o (by lia)) (edit_back cs h.o) ?_)⟩
  refine And.intro (S8_le h.n (by decide)) ?_
  rw [slice_from cs h.o]
  refine And.intro (S8_add (n := 300) (by rw [List.length_drop]; (clear l2 he hb; lia)) (by decide)) ?_
  rw [S8_app]
  exact ite_no (ne_S8 rfl) tail
theorem law_7 (iv : Iv a r μ) (tail : ∀ (q : Nat) μ', q < 3 → Iv a r μ' → vcSs (Γ0 G GM) (bdL.drop 8) [sc, .mref a, TB r, x3, .str (S8 cs), .int f, .int ((o : Nat) : Int), VW cs f, .int (f + ((o : Nat) : Int)), .str (S8 (rst (cs.take o))), .str (S8 (lst (cs.drop o))), .int ((q : Nat) : Int), x12, x13, x14, x15, x16, x17, x18, x19, x20, x21, x22, x23, x24] μ' K) : vcSs (Γ0 G GM) (bdL.drop 7) [sc, .mref a, TB r, x3, .str (S8 cs), .int f, .int ((o : Nat) : Int), VW cs f, .int (f + ((o : Nat) : Int)), .str (S8 (rst (cs.take o))), .str (S8 (lst (cs.drop o))), x11, x12, x13, x14, x15, x16, x17, x18, x19, x20, x21, x22, x23, x24] μ K := by
  exact g.c28 _ _ _ ⟨a, 3, rfl, by decide, by decide, iv.d, fun x μ' hx hu => tail x μ' hx (iv.up hu)⟩
theorem law_8 {q : Nat} (h : LX cs f o) (hq : q < 3) (tail : vcSs (Γ0 G GM) (bdL.drop 9) [sc, .mref a, TB r, x3, .str (S8 cs), .int f, .int ((o : Nat) : Int), VW cs f, .int (f + ((o : Nat) : Int)), .str (S8 (rst (cs.take o))), .str (S8 (lst (cs.drop o))), .int ((q : Nat) : Int), x12, x13, x14, x15, x16, x17, x18, x19, x20, x21, x22, x23, x24] μ K) : vcSs (Γ0 G GM) (bdL.drop 8) [sc, .mref a, TB r, x3, .str (S8 cs), .int f, .int ((o : Nat) : Int), VW cs f, .int (f + ((o : Nat) : Int)), .str (S8 (rst (cs.take o))), .str (S8 (lst (cs.drop o))), .int ((q : Nat) : Int), x12, x13, x14, x15, x16, x17, x18, x19, x20, x21, x22, x23, x24] μ K := by
  have hn := h.n; have hb := bb_le cs o; have he := be_bd cs h.o; have ho := h.o
  have l1 := rst_len (cs.take o); have l2 := lst_len (cs.drop o)
  rw [List.length_take] at l1; rw [List.length_drop] at l2
  refine g.c12 _ _ _ ⟨cs, f, o, q, rfl, h.tx.toSm, h.o, by (clear l2 l1; lia), (g.c32.dn (es := [(bb cs o, be cs o, List.replicate q 32)]) ?_ (of_decide_eq_true rfl) (EdsOk.ins (by (clear l2 l1 he; lia)) he.2 (by (clear l2 l1 hq; lia)) (by rw [List.length_replicate]; (clear l2 l1; lia)) (fun c hc => List.eq_of_mem_replicate hc)) (edit_both cs h.o _) ?_)⟩
  · show [eD3 f (bb cs o) (be cs o) (List.replicate q (.int 32))] = [edD f (bb cs o, be cs o, List.replicate q 32)]
    unfold eD3 edD
    rw [List.map_replicate]; rfl
  refine And.intro (by show (1 : Nat) ≤ 16; decide) (And.intro (show (0 : Int) ≤ (q : Int) by (clear l2 l1; lia)) (And.intro (show (q : Int) ≤ 1000000 by (clear l2 l1; lia)) ?_))
  rw [show Txt.mul ⟨#[32]⟩ (q : Int) = S8 (List.replicate q 32) from mul_S8 q]
  refine And.intro (S8_add (n := 300) (by rw [List.length_replicate]; (clear l2 hb; lia)) (by decide)) ?_
  rw [S8_app]
  refine And.intro (S8_add (n := 300) (by rw [List.length_append, List.length_replicate]; (clear he hb; lia)) (by decide)) ?_
  rw [S8_app]
  exact ite_no (ne_S8 rfl) tail
end
theorem mem_splitNL {l a : List Nat} (h : a ∈ splitNL l) : a.length ≤ l.length ∧ (splitNL l).length ≤ l.length + 1 := by
  have key : ∀ l : List Nat, (∀ a ∈ splitNL l, a.length ≤ l.length) ∧ (splitNL l).length ≤ l.length + 1 := by
    intro l
    induction l with
    | nil => exact ⟨fun a h => by (rw [show splitNL [] = [[]] from rfl] at h; simp at h; rw [h]; exact Nat.le_refl _), Nat.le_refl _⟩
    | cons c r ih =>
      obtain ⟨i1, i2⟩ := ih
      unfold splitNL
      split
      · refine ⟨fun a h => ?_, by rw [List.length_cons, List.length_cons]; lia⟩
        rcases List.mem_cons.mp h with rfl | h
        · exact Nat.zero_le _
        · have := i1 a h; rw [List.length_cons]; lia
      · cases q : splitNL r with
        | nil => exact absurd q (splitNL_ne r)
        | cons b t =>
          rw [q] at i1 i2
          refine ⟨fun a h => ?_, by rw [List.length_cons] at *; rw [List.length_cons]; lia⟩
          rcases List.mem_cons.mp h with rfl | h
          · have := i1 b (.head _); rw [List.length_cons, List.length_cons]; (clear i2; lia)
          · have := i1 a (.tail _ h); rw [List.length_cons]; (clear i2; lia)
  exact ⟨(key l).1 a h, (key l).2⟩
theorem LS_last {ls : List (List Nat)} (h : ls ≠ []) : getAt (LS ls) (-1) = some (.str (S8 (ls.getLast?.getD []))) := by
  rcases nil_or_snoc ls with e | ⟨l, z, rfl⟩
  · exact absurd e h
  · have e : (LS (l ++ [z])).length = l.length + 1 := by rw [List.length_map, List.length_append]; rfl
    unfold getAt
    rw [if_neg (by decide), if_pos (by lia), e, show ((-1 : Int) + ((l.length + 1 : Nat) : Int)).toNat = l.length by lia]
    rw [List.getElem?_map, get_mid l z [], List.getLast?_append]; rfl
section
variable {G GM : Nat → List D → Mem → KE → Prop} (g : Sps G GM) {K : KS} {sc x3 x4 x5 x6 x7 x8 x9 x10 x11 x12 x13 x14 x15 x16 x17 x18 x19 x20 x21 x22 x23 x24 : D} {a r : Addr} {μ : Mem} {cs : List Nat} {f : Int} {o : Nat}
include g
theorem law_9 (h : LX cs f o) (iv : Iv a r μ) (tail : vcSs (Γ0 G GM) (bdL.drop 10) [sc, .mref a, TB r, x3, .str (S8 cs), .int f, .int ((o : Nat) : Int), VW cs f, .int (f + ((o : Nat) : Int)), .str (S8 (rst (cs.take o))), .str (S8 (lst (cs.drop o))), x11, x12, x13, x14, x15, x16, x17, x18, x19, x20, x21, x22, x23, x24] μ K) : vcSs (Γ0 G GM) (bdL.drop 9) [sc, .mref a, TB r, x3, .str (S8 cs), .int f, .int ((o : Nat) : Int), VW cs f, .int (f + ((o : Nat) : Int)), .str (S8 (rst (cs.take o))), .str (S8 (lst (cs.drop o))), x11, x12, x13, x14, x15, x16, x17, x18, x19, x20, x21, x22, x23, x24] μ K := by
  have hn := h.n
  obtain ⟨A, u, v, B, z, ho, hc, hs⟩ := zi_of cs h.o
  have e := z.join h.tx.al (j := u.length) (by rw [List.length_append]; (clear hc ho hn; lia))
  rw [← ho] at e
  have h0 := ls_le cs o
  have hoo := h.o
  have ok : EdsOk cs [joinEd cs o] := by
    unfold joinEd
    split
    · exact EdsOk.ins (Nat.zero_le _) (Nat.zero_le _) (by (clear hc ho; lia)) (Nat.zero_le _) (fun c h => by (cases h))
    · have hb := bb_le cs (ls cs o - 1)
      have he := be_bd cs (show ls cs o ≤ cs.length by (clear hb hc ho; lia))
      refine EdsOk.ins (by (clear he hc ho hn; lia)) he.2 (by lia) (by split <;> simp) (fun c h => ?_)
      split at h
      · simpa using h
      · cases h
  refine g.c15 _ _ _ ⟨cs, f, r, o, rfl, h.tx, iv.t, h.o, ?_⟩
  rw [joinE_eq]
  refine g.c32.dn (es := [joinEd cs o]) rfl (of_decide_eq_true rfl) ok e ?_
  exact g.c35 _ _ _ ⟨cs, A, u ++ v, B, o, 100, rfl, z.toZp h.n (by decide) h.chars, h.o, hc, ite_no (ne_S8 rfl) tail⟩
omit g in
theorem law_10 (h : LX cs f o) (tail : vcSs (Γ0 G GM) (bdL.drop 11) [sc, .mref a, TB r, x3, .str (S8 cs), .int f, .int ((o : Nat) : Int), VW cs f, .int (f + ((o : Nat) : Int)), .str (S8 (rst (cs.take o))), .str (S8 (lst (cs.drop o))), x11, .bool (edge (rst (cs.take o)) (lst (cs.drop o))), x13, x14, x15, x16, x17, x18, x19, x20, x21, x22, x23, x24] μ K) : vcSs (Γ0 G GM) (bdL.drop 10) [sc, .mref a, TB r, x3, .str (S8 cs), .int f, .int ((o : Nat) : Int), VW cs f, .int (f + ((o : Nat) : Int)), .str (S8 (rst (cs.take o))), .str (S8 (lst (cs.drop o))), x11, x12, x13, x14, x15, x16, x17, x18, x19, x20, x21, x22, x23, x24] μ K := by
  have hn := h.n; have ho := h.o
  have l1 := rst_len (cs.take o); have l2 := lst_len (cs.drop o)
  rw [List.length_take] at l1; rw [List.length_drop] at l2
  generalize hA : rst (cs.take o) = p at *
  generalize hB : lst (cs.drop o) = q at *
  have fin : ∀ b : Bool, edge p q = b → vcSs (Γ0 G GM) (bdL.drop 11) [sc, .mref a, TB r, x3, .str (S8 cs), .int f, .int ((o : Nat) : Int), VW cs f, .int (f + ((o : Nat) : Int)), .str (S8 p), .str (S8 q), x11, .bool b, x13, x14, x15, x16, x17, x18, x19, x20, x21, x22, x23, x24] μ K := by
    intro b e; rw [e] at tail; exact tail
  have hch : ∀ c ∈ p, c ≠ 39 := by
    intro c hc
    rw [← hA] at hc
    have hc := List.mem_of_mem_take (mem_rst hc)
    obtain ⟨i, hi⟩ := List.getElem?_of_mem hc
    have hl := (List.getElem?_eq_some_iff.mp hi).1
    rw [cAt_get hl] at hi
    have e := Option.some.inj hi
    have := al_cases (h.tx.al i hl)
    (clear hl l2 l1 ho hn; lia)
  show ((S8 p == S8 []) = true → _) ∧ ((S8 p == S8 []) = false → _)
  rw [S8_beq]
  refine And.intro (fun h1 => fin true ?_) (fun h1 => ?_)
  · unfold edge; rw [h1]; rfl
  have h1' := of_decide_eq_false h1
  obtain ⟨l, d, hy⟩ : ∃ l d, p = l ++ [d] := by rcases nil_or_snoc p with e | e; exact absurd e h1'; exact e
  have lp : 0 < p.length := by rw [hy, List.length_append]; show 0 < _ + 1; (clear l2 l1 ho hn; lia)
  refine And.intro (S8_le (n := 1000) (by (clear l2 ho; lia)) (by decide)) (And.intro (show -((S8 p).length : Int) ≤ -1 by rw [S8_len]; (clear l2 l1 ho hn; lia)) (And.intro (show (-1 : Int) < ((S8 p).length : Int) by (clear l2 l1 ho hn; lia)) ?_))
  rw [show Txt.item (S8 p) (-1) = S8 [d] by rw [hy]; exact item_last l d]
  show ((Txt.contains (S8 [10, 40, 39]) (S8 [d]) != false) = true → _) ∧ ((Txt.contains (S8 [10, 40, 39]) (S8 [d]) != false) = false → _)
  rw [contains_one, Bool.bne_false]
  have e2 : decide (p.getLast? = some 10 ∨ p.getLast? = some 40 ∨ p.getLast? = some 39) = decide (d ∈ [10, 40, 39]) := by
    rw [hy, List.getLast?_append]
    simp
  refine And.intro (fun h2 => fin true ?_) (fun h2 => ?_)
  · unfold edge; rw [e2, h2, Bool.or_true]; rfl
  show ((S8 q == S8 []) = true → _) ∧ ((S8 q == S8 []) = false → _)
  rw [S8_beq]
  refine And.intro (fun h3 => fin true ?_) (fun h3 => ?_)
  · unfold edge; rw [h3, Bool.or_true, Bool.true_or]
  have h3' := of_decide_eq_false h3
  obtain ⟨c, t, hx⟩ : ∃ c t, q = c :: t := by cases q with | nil => exact absurd rfl h3' | cons c t => exact ⟨c, t, rfl⟩
  refine And.intro (S8_le (n := 1000) (by (clear l1; lia)) (by decide)) (And.intro (show -((S8 q).length : Int) ≤ 0 by (clear l2 l1 ho hn; lia)) (And.intro (show (0 : Int) < ((S8 q).length : Int) by rw [S8_len, hx, List.length_cons]; (clear l2 l1 ho hn; lia)) ?_))
  rw [show Txt.item (S8 q) 0 = S8 [c] by rw [hx]; exact it0 c t]
  show ((Txt.contains (S8 [10, 41]) (S8 [c]) != false) = true → _) ∧ ((Txt.contains (S8 [10, 41]) (S8 [c]) != false) = false → _)
  rw [contains_one, Bool.bne_false]
  have e4 : decide (q.head? = some 10 ∨ q.head? = some 41) = decide (c ∈ [10, 41]) := by
    rw [hx]
    simp
  refine And.intro (fun h4 => fin true ?_) (fun h4 => fin false ?_)
  · unfold edge; rw [e4, h4, Bool.or_true]
  · unfold edge; rw [h1, e2, h2, h3, e4, h4]; rfl
theorem law_11 (h : LX cs f o) (iv : Iv a r μ) (tail : vcSs (Γ0 G GM) (bdL.drop 12) [sc, .mref a, TB r, x3, .str (S8 cs), .int f, .int ((o : Nat) : Int), VW cs f, .int (f + ((o : Nat) : Int)), .str (S8 (rst (cs.take o))), .str (S8 (lst (cs.drop o))), x11, .bool (edge (rst (cs.take o)) (lst (cs.drop o))), x13, x14, x15, x16, x17, x18, x19, x20, x21, x22, x23, x24] μ K) : vcSs (Γ0 G GM) (bdL.drop 11) [sc, .mref a, TB r, x3, .str (S8 cs), .int f, .int ((o : Nat) : Int), VW cs f, .int (f + ((o : Nat) : Int)), .str (S8 (rst (cs.take o))), .str (S8 (lst (cs.drop o))), x11, .bool (edge (rst (cs.take o)) (lst (cs.drop o))), x13, x14, x15, x16, x17, x18, x19, x20, x21, x22, x23, x24] μ K := by
  have hn := h.n; have hb := bb_le cs o; have he := be_bd cs h.o; have ho := h.o
  have l1 := rst_len (cs.take o); have l2 := lst_len (cs.drop o)
  rw [List.length_take] at l1; rw [List.length_drop] at l2
  have hw := ws_edge h.tx.al (a := bb cs o) (b := be cs o) (by (clear l2 l1 he; lia)) he.2
  rw [take_bb cs o h.o, drop_be' cs h.o] at hw
  refine g.c14 _ _ _ ⟨cs, f, r, o, rfl, h.tx, iv.t, h.o, ?_⟩
  rw [hw]
  generalize hE : edge (rst (cs.take o)) (lst (cs.drop o)) = E at *
  have fin : ∀ s : List Nat, (if (!E) = true then [D.int 32] else []) = s.map (fun c => D.int ((c : Nat) : Int)) → s.length ≤ 1 → (∀ c ∈ s, c = 32) →
      (∀ kk : KE, kk (.str (S8 s)) μ → vcE (Γ0 G GM) (.ite (.var 12) (.str ⟨#[]⟩) (.str ⟨#[32]⟩)) [sc, .mref a, TB r, x3, .str (S8 cs), .int f, .int ((o : Nat) : Int), VW cs f, .int (f + ((o : Nat) : Int)), .str (S8 (rst (cs.take o))), .str (S8 (lst (cs.drop o))), x11, .bool E, x13, x14, x15, x16, x17, x18, x19, x20, x21, x22, x23, x24] μ kk) →
      (fun d μ' => vcEs (Γ0 G GM) [] [sc, .mref a, TB r, x3, .str (S8 cs), .int f, .int ((o : Nat) : Int), VW cs f, .int (f + ((o : Nat) : Int)), .str (S8 (rst (cs.take o))), .str (S8 (lst (cs.drop o))), x11, .bool E, x13, x14, x15, x16, x17, x18, x19, x20, x21, x22, x23, x24] μ' fun ds μ2 => (fun ds μ1 => (fun d μ1 => vcEs (Γ0 G GM) [.var 5] [sc, .mref a, TB r, x3, .str (S8 cs), .int f, .int ((o : Nat) : Int), VW cs f, .int (f + ((o : Nat) : Int)), .str (S8 (rst (cs.take o))), .str (S8 (lst (cs.drop o))), x11, .bool E, x13, x14, x15, x16, x17, x18, x19, x20, x21, x22, x23, x24] μ1 fun ds μ2 => G 32 (.str (S8 cs) :: d :: ds) μ2 fun x μ1 => vcE (Γ0 G GM) (.bin .add (.bin .add (.var 9) (.ite (.var 12) (.str ⟨#[]⟩) (.str ⟨#[32]⟩))) (.var 10)) [sc, .mref a, TB r, x3, .str (S8 cs), .int f, .int ((o : Nat) : Int), VW cs f, .int (f + ((o : Nat) : Int)), .str (S8 (rst (cs.take o))), .str (S8 (lst (cs.drop o))), x11, .bool E, x13, x14, x15, x16, x17, x18, x19, x20, x21, x22, x23, x24] μ1 fun y μ2 => onSm (cmpD .ne x y) fun rr => (rr = true → vcSs (Γ0 G GM) [.ret (.bool false)] [sc, .mref a, TB r, x3, .str (S8 cs), .int f, .int ((o : Nat) : Int), VW cs f, .int (f + ((o : Nat) : Int)), .str (S8 (rst (cs.take o))), .str (S8 (lst (cs.drop o))), x11, .bool E, x13, x14, x15, x16, x17, x18, x19, x20, x21, x22, x23, x24] μ2 fun o l μ1 => match o with | .next => vcSs (Γ0 G GM) (bdL.drop 12) l μ1 K | .ret v => K (.ret v) l μ1) ∧ (rr = false → vcSs (Γ0 G GM) [] [sc, .mref a, TB r, x3, .str (S8 cs), .int f, .int ((o : Nat) : Int), VW cs f, .int (f + ((o : Nat) : Int)), .str (S8 (rst (cs.take o))), .str (S8 (lst (cs.drop o))), x11, .bool E, x13, x14, x15, x16, x17, x18, x19, x20, x21, x22, x23, x24] μ2 fun o l μ1 => match o with | .next => vcSs (Γ0 G GM) (bdL.drop 12) l μ1 K | .ret v => K (.ret v) l μ1)) (.list ds) μ1) (d :: ds) μ2) (eD3 f (bb cs o) (be cs o) (if (!E) = true then [D.int 32] else [])) μ := by
    intro s hs hsl hs32 hv
    refine g.c32.dn (es := [(bb cs o, be cs o, s)]) ?_ (of_decide_eq_true rfl) (EdsOk.ins (by lia) he.2 (by (clear hsl l2 l1; lia)) (by (clear l2 l1 he hb; lia)) hs32) (edit_both cs h.o s) ?_
    · show [eD3 f (bb cs o) (be cs o) _] = [edD f (bb cs o, be cs o, s)]
      unfold eD3 edD
      rw [hs]
    refine hv _ ?_
    refine And.intro (S8_add (n := 300) (by (clear l2 he hb; lia)) (by decide)) ?_
    rw [S8_app]
    refine And.intro (S8_add (n := 300) (by rw [List.length_append]; (clear he hb; lia)) (by decide)) ?_
    rw [S8_app]
    exact ite_no (ne_S8 rfl) tail
  cases E with
  | true => exact fin [] rfl (Nat.zero_le _) (fun c h => by (cases h)) (fun kk hk => And.intro (fun _ => hk) (fun h => by cases h))
  | false => exact fin [32] rfl (Nat.le_refl _) (fun c h => by simpa using h) (fun kk hk => And.intro (fun h => by cases h) (fun _ => hk))
end
section
variable {G GM : Nat → List D → Mem → KE → Prop} (g : Sps G GM) {K : KS} {sc x3 x4 x5 x6 x7 x8 x9 x10 x11 x12 x13 x14 x15 x16 x17 x18 x19 x20 x21 x22 x23 x24 : D} {a r : Addr} {μ : Mem} {cs : List Nat} {f : Int} {o lo hi : Nat}
include g
theorem law_12 (h : LX cs f o) (iv : Iv a r μ) (tail : ∀ (lo hi : Nat) μ', lo ≤ hi → hi ≤ cs.length → Iv a r μ' → vcSs (Γ0 G GM) (bdL.drop 13) [sc, .mref a, TB r, x3, .str (S8 cs), .int f, .int ((o : Nat) : Int), VW cs f, .int (f + ((o : Nat) : Int)), .str (S8 (rst (cs.take o))), .str (S8 (lst (cs.drop o))), x11, x12, .int ((lo : Nat) : Int), .int ((hi : Nat) : Int), x15, x16, x17, x18, x19, x20, x21, x22, x23, x24] μ' K) : vcSs (Γ0 G GM) (bdL.drop 12) [sc, .mref a, TB r, x3, .str (S8 cs), .int f, .int ((o : Nat) : Int), VW cs f, .int (f + ((o : Nat) : Int)), .str (S8 (rst (cs.take o))), .str (S8 (lst (cs.drop o))), x11, x12, x13, x14, x15, x16, x17, x18, x19, x20, x21, x22, x23, x24] μ K := by
  have hn := h.n; have ho := h.o
  refine And.intro (S8_le h.n (by decide)) ?_
  rw [S8_len]
  refine g.c28 _ _ _ ⟨a, cs.length + 1, rfl, by (clear hn; lia), by lia, iv.d, fun x μ' hx hu => ?_⟩
  intro p q e1 e2
  have e1 : p = ((min x o : Nat) : Int) := by rw [e1]; split <;> (clear e2 e1 ho; lia)
  have e2 : q = ((max x o : Nat) : Int) := by rw [e2]; split <;> (clear e1 e2; lia)
  subst e1 e2
  exact tail (min x o) (max x o) μ' (by (clear e2 e1 hx; lia)) (by (clear e2 e1; lia)) (iv.up hu)
omit g in
theorem law_13 (h : LX cs f o) (h1 : lo ≤ hi) (h2 : hi ≤ cs.length) (tail : vcSs (Γ0 G GM) (bdL.drop 14) [sc, .mref a, TB r, x3, .str (S8 cs), .int f, .int ((o : Nat) : Int), VW cs f, .int (f + ((o : Nat) : Int)), .str (S8 (rst (cs.take o))), .str (S8 (lst (cs.drop o))), x11, x12, .int ((lo : Nat) : Int), .int ((hi : Nat) : Int), .list (LS (splitNL (seg cs lo hi))), x16, x17, x18, x19, x20, x21, x22, x23, x24] μ K) : vcSs (Γ0 G GM) (bdL.drop 13) [sc, .mref a, TB r, x3, .str (S8 cs), .int f, .int ((o : Nat) : Int), VW cs f, .int (f + ((o : Nat) : Int)), .str (S8 (rst (cs.take o))), .str (S8 (lst (cs.drop o))), x11, x12, .int ((lo : Nat) : Int), .int ((hi : Nat) : Int), x15, x16, x17, x18, x19, x20, x21, x22, x23, x24] μ K := by
  have hn := h.n; have ho := h.o
  refine And.intro (S8_le h.n (by decide)) ?_
  rw [slice_mid cs h1 h2]
  have ls : (seg cs lo hi).length ≤ 100 := by unfold seg; rw [List.length_take, List.length_drop]; (clear ho; lia)
  refine And.intro trivial (And.intro rfl (And.intro (S8_le ls (by decide)) (And.intro (parts_le ls (by decide)) ?_)))
  show vcSs (Γ0 G GM) _ [sc, .mref a, TB r, x3, .str (S8 cs), .int f, .int ((o : Nat) : Int), VW cs f, .int (f + ((o : Nat) : Int)), .str (S8 (rst (cs.take o))), .str (S8 (lst (cs.drop o))), x11, x12, .int ((lo : Nat) : Int), .int ((hi : Nat) : Int), .list ((Txt.split (S8 (seg cs lo hi)) (S8 [10])).map D.str), x16, x17, x18, x19, x20, x21, x22, x23, x24] μ K
  rw [split_LS]
  exact tail
omit g in
theorem law_14 (h : LX cs f o) (h1 : lo ≤ hi) (h2 : hi ≤ cs.length) (tail : vcSs (Γ0 G GM) (bdL.drop 15) [sc, .mref a, TB r, x3, .str (S8 cs), .int f, .int ((o : Nat) : Int), VW cs f, .int (f + ((o : Nat) : Int)), .str (S8 (rst (cs.take o))), .str (S8 (lst (cs.drop o))), x11, x12, .int ((lo : Nat) : Int), .int ((hi : Nat) : Int), .list (LS (splitNL (seg cs lo hi))), .str (S8 (if ile cs hi then rst ((splitNL (seg cs lo hi)).getLast?.getD []) else (splitNL (seg cs lo hi)).getLast?.getD [])), x17, x18, x19, x20, x21, x22, x23, x24] μ K) : vcSs (Γ0 G GM) (bdL.drop 14) [sc, .mref a, TB r, x3, .str (S8 cs), .int f, .int ((o : Nat) : Int), VW cs f, .int (f + ((o : Nat) : Int)), .str (S8 (rst (cs.take o))), .str (S8 (lst (cs.drop o))), x11, x12, .int ((lo : Nat) : Int), .int ((hi : Nat) : Int), .list (LS (splitNL (seg cs lo hi))), x16, x17, x18, x19, x20, x21, x22, x23, x24] μ K := by
  have hn := h.n; have ho := h.o
  have ls : (seg cs lo hi).length ≤ 100 := by unfold seg; rw [List.length_take, List.length_drop]; (clear ho tail; lia)
  obtain ⟨p, z, hp⟩ : ∃ p z, splitNL (seg cs lo hi) = p ++ [z] := by rcases nil_or_snoc (splitNL (seg cs lo hi)) with e | e; exact absurd e (splitNL_ne _); exact e
  have lz := mem_splitNL (l := seg cs lo hi) (a := z) (by rw [hp]; simp)
  have ez : (splitNL (seg cs lo hi)).getLast?.getD [] = z := by rw [hp, List.getLast?_append]; rfl
  have hL : (LS (splitNL (seg cs lo hi))).length ≤ sizeLine := LS_le (n := 200) (by (clear ho h1; lia)) (by decide)
  have hg := LS_last (splitNL_ne (seg cs lo hi))
  rw [ez] at hg tail
  refine And.intro (S8_le h.n (by decide)) ?_
  rw [S8_len]
  have yes : ile cs hi = true → vcE (Γ0 G GM) (.meth .rstrip (.idx (.var 15) (.neg (.int 1))) [.str ⟨#[32, 9]⟩]) [sc, .mref a, TB r, x3, .str (S8 cs), .int f, .int ((o : Nat) : Int), VW cs f, .int (f + ((o : Nat) : Int)), .str (S8 (rst (cs.take o))), .str (S8 (lst (cs.drop o))), x11, x12, .int ((lo : Nat) : Int), .int ((hi : Nat) : Int), .list (LS (splitNL (seg cs lo hi))), x16, x17, x18, x19, x20, x21, x22, x23, x24] μ fun d μ1 => vcSs (Γ0 G GM) (bdL.drop 15) ([sc, .mref a, TB r, x3, .str (S8 cs), .int f, .int ((o : Nat) : Int), VW cs f, .int (f + ((o : Nat) : Int)), .str (S8 (rst (cs.take o))), .str (S8 (lst (cs.drop o))), x11, x12, .int ((lo : Nat) : Int), .int ((hi : Nat) : Int), .list (LS (splitNL (seg cs lo hi))), x16, x17, x18, x19, x20, x21, x22, x23, x24].set 16 d) μ1 K := by
    intro e
    rw [e] at tail
    refine And.intro hL ⟨_, hg, And.intro trivial (And.intro (S8_le (n := 100) (by (clear hL ho h1; lia)) (by decide)) ?_)⟩
    show vcSs (Γ0 G GM) _ [sc, .mref a, TB r, x3, .str (S8 cs), .int f, .int ((o : Nat) : Int), VW cs f, .int (f + ((o : Nat) : Int)), .str (S8 (rst (cs.take o))), .str (S8 (lst (cs.drop o))), x11, x12, .int ((lo : Nat) : Int), .int ((hi : Nat) : Int), .list (LS (splitNL (seg cs lo hi))), .str (Txt.rstripChars (S8 z) (S8 [32, 9])), x17, x18, x19, x20, x21, x22, x23, x24] μ K
    rw [rstrip_S8]; exact tail
  have no : ile cs hi = false → vcE (Γ0 G GM) (.idx (.var 15) (.neg (.int 1))) [sc, .mref a, TB r, x3, .str (S8 cs), .int f, .int ((o : Nat) : Int), VW cs f, .int (f + ((o : Nat) : Int)), .str (S8 (rst (cs.take o))), .str (S8 (lst (cs.drop o))), x11, x12, .int ((lo : Nat) : Int), .int ((hi : Nat) : Int), .list (LS (splitNL (seg cs lo hi))), x16, x17, x18, x19, x20, x21, x22, x23, x24] μ fun d μ1 => vcSs (Γ0 G GM) (bdL.drop 15) ([sc, .mref a, TB r, x3, .str (S8 cs), .int f, .int ((o : Nat) : Int), VW cs f, .int (f + ((o : Nat) : Int)), .str (S8 (rst (cs.take o))), .str (S8 (lst (cs.drop o))), x11, x12, .int ((lo : Nat) : Int), .int ((hi : Nat) : Int), .list (LS (splitNL (seg cs lo hi))), x16, x17, x18, x19, x20, x21, x22, x23, x24].set 16 d) μ1 K := by
    intro e
    rw [e] at tail
    exact And.intro hL ⟨_, hg, tail⟩
  refine And.intro (fun e => And.intro (fun _ => yes ?_) (fun e => by cases e)) (fun e => ?_)
  · have e : hi = cs.length := by have := eq_of_beq e; (clear hL lz ls h1; lia)
    unfold ile; rw [decide_eq_true e]; rfl
  have e : hi ≠ cs.length := by
    have e : (((hi : Nat) : Int) == ((cs.length : Nat) : Int)) = false := e
    have := by simpa using e
    (clear hL lz ls h1; lia)
  refine And.intro (S8_le h.n (by decide)) (And.intro (show -((S8 cs).length : Int) ≤ (hi : Int) by (clear hL lz ls ho; lia)) (And.intro (show (hi : Int) < ((S8 cs).length : Int) by rw [S8_len]; (clear hL lz ls h1; lia)) ?_))
  rw [item_nn cs (cAt_get (show hi < cs.length by (clear hL lz ls h1; lia)))]
  show ((S8 [cAt cs hi] == S8 [10]) = true → _) ∧ ((S8 [cAt cs hi] == S8 [10]) = false → _)
  rw [S8_beq]
  have e3 : decide ([cAt cs hi] = [10]) = decide (cAt cs hi = 10) := by simp
  refine And.intro (fun h3 => And.intro (fun _ => yes ?_) (fun e => by cases e)) (fun h3 => And.intro (fun e => by cases e) (fun _ => no ?_))
  · rw [e3] at h3; unfold ile; rw [h3, Bool.or_true]
  · rw [e3] at h3; unfold ile; rw [h3, decide_eq_false e]; rfl
omit g in
theorem law_15 (h : LX cs f o) (h1 : lo ≤ hi) (h2 : hi ≤ cs.length) (tail : vcSs (Γ0 G GM) (bdL.drop 16) [sc, .mref a, TB r, x3, .str (S8 cs), .int f, .int ((o : Nat) : Int), VW cs f, .int (f + ((o : Nat) : Int)), .str (S8 (rst (cs.take o))), .str (S8 (lst (cs.drop o))), x11, x12, .int ((lo : Nat) : Int), .int ((hi : Nat) : Int), .list (LS (splitNL (seg cs lo hi))), .str (S8 (if ile cs hi then rst ((splitNL (seg cs lo hi)).getLast?.getD []) else (splitNL (seg cs lo hi)).getLast?.getD [])), .str (S8 (duP (ile cs hi) (splitNL (seg cs lo hi)))), x18, x19, x20, x21, x22, x23, x24] μ K) : vcSs (Γ0 G GM) (bdL.drop 15) [sc, .mref a, TB r, x3, .str (S8 cs), .int f, .int ((o : Nat) : Int), VW cs f, .int (f + ((o : Nat) : Int)), .str (S8 (rst (cs.take o))), .str (S8 (lst (cs.drop o))), x11, x12, .int ((lo : Nat) : Int), .int ((hi : Nat) : Int), .list (LS (splitNL (seg cs lo hi))), .str (S8 (if ile cs hi then rst ((splitNL (seg cs lo hi)).getLast?.getD []) else (splitNL (seg cs lo hi)).getLast?.getD [])), x17, x18, x19, x20, x21, x22, x23, x24] μ K := by
  have hn := h.n; have ho := h.o
  have ls : (seg cs lo hi).length ≤ 100 := by unfold seg; rw [List.length_take, List.length_drop]; (clear ho tail; lia)
  generalize hP : splitNL (seg cs lo hi) = P at *
  have lall : ∀ a ∈ P, a.length ≤ 100 ∧ P.length ≤ 101 := fun a ha => by
    rw [← hP] at ha
    have := mem_splitNL ha
    rw [← hP]; (clear ho h1; lia)
  obtain ⟨p, z, rfl⟩ : ∃ p z, P = p ++ [z] := by rcases nil_or_snoc P with e | e; exact absurd (hP.trans e) (splitNL_ne _); exact e
  have lz := lall z (by simp)
  rw [List.length_append] at lz
  have lz2 : p.length + 1 ≤ 101 := lz.2
  have hL : (LS (p ++ [z])).length ≤ sizeLine := LS_le (n := 200) (by rw [List.length_append]; show p.length + 1 ≤ _; (clear lz ls ho h1; lia)) (by decide)
  refine And.intro trivial (And.intro hL ?_)
  rw [pick_last, ← List.map_dropLast, List.dropLast_concat]
  refine And.intro (LS_le (n := 200) (by (clear hL lz ls ho h1; lia)) (by decide)) ?_
  refine comp_map (fun l : List Nat => D.str (S8 l)) (fun l => D.str (S8 (rst l))) p (fun x hx k' h => h) (fun l hl k' hk => And.intro trivial (And.intro (S8_le (lall l (by simp [hl])).1 (by decide)) ?_)) ?_
  · show k' (.str (Txt.rstripChars (S8 l) (S8 [32, 9]))) μ
    rw [rstrip_S8]; exact hk
  refine And.intro (by rw [List.length_map, sizeLine_eq]; show p.length + 1 ≤ _; (clear hL lz ls ho h1; lia)) ?_
  have e : ∀ w : List Nat, (p.map fun l => D.str (S8 (rst l))) ++ [D.str (S8 w)] = LS (p.map rst ++ [w]) := by
    intro w
    unfold LS
    rw [List.map_append, List.map_map]; rfl
  obtain ⟨ts, t1, t2, t3⟩ := joinLS (ls := p.map rst ++ [if ile cs hi then rst ((p ++ [z]).getLast?.getD []) else (p ++ [z]).getLast?.getD []]) (fun a ha => by
    rcases List.mem_append.mp ha with ha | ha
    · obtain ⟨b, hb, rfl⟩ := List.mem_map.mp ha
      have := rst_len b
      have := (lall b (by simp [hb])).1
      (clear hL lz ls ho h1; lia)
    · rw [List.getLast?_append] at ha
      have ha : a = if ile cs hi then rst z else z := by simpa using ha
      have := rst_len z
      rw [ha]
      split <;> (clear hL ls ho h1; lia)) (by rw [List.length_append, List.length_map]; show p.length + 1 ≤ _; (clear hL lz ls ho h1; lia))
  refine ⟨ts, (e _).trans t1, t2, ?_⟩
  rw [t3]
  unfold duP at tail
  rw [List.dropLast_concat] at tail
  exact tail
theorem law_16 (h : LX cs f o) (iv : Iv a r μ) (h1 : lo ≤ hi) (h2 : hi ≤ cs.length) (tail : ∀ μ', Iv a r μ' → vcSs (Γ0 G GM) (bdL.drop 17) [sc, .mref a, TB r, x3, .str (S8 cs), .int f, .int ((o : Nat) : Int), VW cs f, .int (f + ((o : Nat) : Int)), .str (S8 (rst (cs.take o))), .str (S8 (lst (cs.drop o))), x11, x12, .int ((lo : Nat) : Int), .int ((hi : Nat) : Int), .list (LS (splitNL (seg cs lo hi))), .str (S8 (if ile cs hi then rst ((splitNL (seg cs lo hi)).getLast?.getD []) else (splitNL (seg cs lo hi)).getLast?.getD [])), .str (S8 (duP (ile cs hi) (splitNL (seg cs lo hi)))), x18, x19, x20, x21, x22, x23, x24] μ' K) : vcSs (Γ0 G GM) (bdL.drop 16) [sc, .mref a, TB r, x3, .str (S8 cs), .int f, .int ((o : Nat) : Int), VW cs f, .int (f + ((o : Nat) : Int)), .str (S8 (rst (cs.take o))), .str (S8 (lst (cs.drop o))), x11, x12, .int ((lo : Nat) : Int), .int ((hi : Nat) : Int), .list (LS (splitNL (seg cs lo hi))), .str (S8 (if ile cs hi then rst ((splitNL (seg cs lo hi)).getLast?.getD []) else (splitNL (seg cs lo hi)).getLast?.getD [])), .str (S8 (duP (ile cs hi) (splitNL (seg cs lo hi)))), x18, x19, x20, x21, x22, x23, x24] μ K := by
  have hn := h.n; have ho := h.o
  obtain ⟨t1, t2⟩ := te_law cs h1 h2 (by (clear h1; lia))
  refine g.c20 _ _ _ ⟨cs, f, lo, hi, rfl, h.tx.toSm, h1, h2, fun q xs hq => (g.c32.dn (es := (teL cs lo hi).map cutE) (edL_eq f _) ?_ t1 t2 ?_)⟩
  · rw [List.length_map]
    unfold teL
    rw [List.length_reverse]
    have := teF_len cs lo hi (cs.length + 1) (le cs lo)
    (clear ho h1; lia)
  have dl : (duP (ile cs hi) (splitNL (seg cs lo hi))).length ≤ 100 := by
    have e := (te_main cs lo hi h2 (by (clear h1 iv; lia)) (cs.length + 1) lo (Nat.le_refl _) h1 (.inl rfl) (by (clear ho h1; lia))).2
    have l := e.2
    rw [e.1, List.length_append, List.length_append] at l; (clear e ho h1; lia)
  refine And.intro (S8_le h.n (by decide)) ?_
  rw [slice_to cs (show lo ≤ cs.length by lia)]
  refine And.intro (S8_add (n := 300) (by rw [List.length_take]; (clear ho h2 h1; lia)) (by decide)) ?_
  rw [S8_app]
  refine And.intro (S8_le h.n (by decide)) ?_
  rw [slice_from cs h2]
  refine And.intro (S8_add (n := 400) (by rw [List.length_append, List.length_take, List.length_drop]; (clear ho; lia)) (by decide)) ?_
  rw [S8_app]
  exact ite_no (ne_S8 rfl) (tail _ (iv.cons hq))
end
noncomputable def hD (l : List Nat) : List D := l.map fun h => D.int ((h : Nat) : Int)
noncomputable def sqK (Γ : Cfg) (ss : List MS) (K : KS) : KS := fun o l μ1 => match o with
  | .next => vcSs Γ ss l μ1 K
  | .ret v => K (.ret v) l μ1
theorem hD_get {l : List Nat} {n : Nat} {x : Nat} (h : l[n]? = some x) : getAt (hD l) ((n : Nat) : Int) = some (.int ((x : Nat) : Int)) := getAt_nat (by unfold hD; rw [List.getElem?_map, h]; rfl)
theorem hD_last {l : List Nat} {z : Nat} : getAt (hD (l ++ [z])) (-1) = some (.int ((z : Nat) : Int)) := by
  have e : (hD (l ++ [z])).length = l.length + 1 := by unfold hD; rw [List.length_map, List.length_append]; rfl
  unfold getAt
  rw [if_neg (by decide), if_pos (by lia), e, show ((-1 : Int) + ((l.length + 1 : Nat) : Int)).toNat = l.length by lia]
  unfold hD
  rw [List.getElem?_map, get_mid l z []]; rfl
section
variable {G GM : Nat → List D → Mem → KE → Prop} (g : Sps G GM) {K : KS} {sc x3 x4 x5 x6 x7 x8 x9 x10 x11 x12 x13 x14 x15 x16 x17 x18 x19 x20 x21 x22 x23 x24 : D} {a r : Addr} {μ : Mem} {cs : List Nat} {f : Int} {o : Nat}
include g
theorem law_17 (h : LX cs f o) (iv : Iv a r μ) (tail : ∀ (x18 x19 x20 x21 x22 : D) μ', Iv a r μ' → vcSs (Γ0 G GM) (bdL.drop 18) [sc, .mref a, TB r, x3, .str (S8 cs), .int f, .int ((o : Nat) : Int), VW cs f, .int (f + ((o : Nat) : Int)), x9, x10, x11, x12, x13, x14, x15, x16, x17, x18, x19, x20, x21, x22, x23, x24] μ' K) : vcSs (Γ0 G GM) (bdL.drop 17) [sc, .mref a, TB r, x3, .str (S8 cs), .int f, .int ((o : Nat) : Int), VW cs f, .int (f + ((o : Nat) : Int)), x9, x10, x11, x12, x13, x14, x15, x16, x17, x18, x19, x20, x21, x22, x23, x24] μ K := by
  have hn := h.n; have ho := h.o
  refine And.intro (fun h0 => ?_) (fun _ => tail _ _ _ _ _ _ iv)
  have h0 : 0 < o := by have h0 : (0 : Int) < (o : Int) := of_decide_eq_true h0; lia
  have e1 : ((o : Nat) : Int) - 1 = ((o - 1 : Nat) : Int) := by lia
  have hle := S8_le h.n (show 100 ≤ 16777216 by decide)
  refine And.intro hle ?_
  rw [e1, slice_to cs (show o - 1 ≤ cs.length by lia)]
  have lt : (cs.take (o - 1)).length ≤ 100 := by rw [List.length_take]; (clear hle e1; lia)
  refine And.intro trivial (And.intro rfl (And.intro (S8_le lt (by decide)) (And.intro (parts_le lt (by decide)) ?_)))
  show idxD (.list ((Txt.split (S8 (cs.take (o - 1))) (S8 [10])).map D.str)) (.int (-1)) μ _
  rw [split_LS]
  have hlast := LS_last (splitNL_ne (cs.take (o - 1)))
  rw [lnOf_law cs (show o - 1 ≤ cs.length by lia)] at hlast
  have hls : (splitNL (cs.take (o - 1))).length ≤ 101 := by
    obtain ⟨x, hx⟩ : ∃ x, x ∈ splitNL (cs.take (o - 1)) := by
      cases q : splitNL (cs.take (o - 1)) with
      | nil => exact absurd q (splitNL_ne _)
      | cons x t => exact ⟨x, .head _⟩
    have := mem_splitNL hx
    (clear hle e1 hn; lia)
  refine And.intro (LS_le (n := 200) (by (clear lt hle e1; lia)) (by decide)) ⟨_, hlast, ?_⟩
  refine g.c28 _ _ _ ⟨a, 8, rfl, by decide, by decide, iv.d, fun x μ' hx hu => ?_⟩
  have iv' := iv.up hu
  have lln : (lnOf cs (o - 1)).length ≤ 100 := by unfold lnOf; rw [List.length_take, List.length_drop]; (clear hx hls lt hle e1 h0; lia)
  refine And.intro (by show ((lnOf cs (o - 1)).map _).length ≤ _; rw [List.length_map, sizeLine_eq]; (clear hx hls lt hle e1; lia)) ?_
  have ew : (1 : Int) + ((x : Nat) : Int) = ((1 + x : Nat) : Int) := by (clear lln hls lt hle e1; lia)
  rw [ew]
  generalize hw : 1 + x = w at *
  have hw0 : 0 < w := by (clear hw lln hx hls lt hle e1; lia)
  have post : ∀ d : D, vcSs (Γ0 G GM) [.set 22 (.ite (.cmp .eq (.idx (.var 4) (.bin .sub (.var 6) (.int 1))) (.str ⟨#[9]⟩)) (.bin .mul (.str ⟨#[32]⟩) (.bin .sub (.bin .sub (.var 19) (.bin .mod (.var 20) (.var 19))) (.int 1))) (.str ⟨#[]⟩)),
      .ite (.cmp .ne (.call 32 [.var 4, .list [.call 22 [.var 7, .var 8, .var 19]], .var 5]) (.bin .add (.bin .add (.slc (.var 4) [] [.bin .sub (.var 6) (.int 1)]) (.var 22)) (.slc (.var 4) [.var 6] []))) [
        .ret (.bool false)] []] [sc, .mref a, TB r, x3, .str (S8 cs), .int f, .int ((o : Nat) : Int), VW cs f, .int (f + ((o : Nat) : Int)), x9, x10, x11, x12, x13, x14, x15, x16, x17, .str (S8 (lnOf cs (o - 1))), .int ((w : Nat) : Int), .int ((colAt cs (o - 1) w : Nat) : Int), d, x22, x23, x24] μ' (sqK (Γ0 G GM) (bdL.drop 18) K) := by
    intro d
    have fin : ∀ n : Nat, bkN cs o w = n → n ≤ 10 → vcSs (Γ0 G GM) [.ite (.cmp .ne (.call 32 [.var 4, .list [.call 22 [.var 7, .var 8, .var 19]], .var 5]) (.bin .add (.bin .add (.slc (.var 4) [] [.bin .sub (.var 6) (.int 1)]) (.var 22)) (.slc (.var 4) [.var 6] []))) [
        .ret (.bool false)] []] [sc, .mref a, TB r, x3, .str (S8 cs), .int f, .int ((o : Nat) : Int), VW cs f, .int (f + ((o : Nat) : Int)), x9, x10, x11, x12, x13, x14, x15, x16, x17, .str (S8 (lnOf cs (o - 1))), .int ((w : Nat) : Int), .int ((colAt cs (o - 1) w : Nat) : Int), d, .str (S8 (List.replicate n 32)), x23, x24] μ' (sqK (Γ0 G GM) (bdL.drop 18) K) := by
      intro n en hn10
      refine g.c22 _ _ _ ⟨cs, f, o, w, rfl, h.tx, h.o, h0, hw0, by (clear hw lln hls lt hle e1; lia), ?_⟩
      rw [en]
      refine g.c32.dn (es := [(o - 1, o, List.replicate n 32)]) ?_ (of_decide_eq_true rfl) (EdsOk.ins (by lia) h.o (by lia) (by rw [List.length_replicate]; (clear en lln hls lt hle e1; lia)) (fun c hc => List.eq_of_mem_replicate hc)) rfl ?_
      · show [eD3 f (o - 1) o (List.replicate n (.int 32))] = [edD f (o - 1, o, List.replicate n 32)]
        unfold eD3 edD
        rw [List.map_replicate]; rfl
      refine And.intro hle ?_
      rw [e1, slice_to cs (show o - 1 ≤ cs.length by lia)]
      refine And.intro (S8_add (n := 300) (by rw [List.length_replicate]; (clear en lln hls hle e1; lia)) (by decide)) ?_
      rw [S8_app]
      refine And.intro hle ?_
      rw [slice_from cs h.o]
      refine And.intro (S8_add (n := 400) (by rw [List.length_append, List.length_replicate, List.length_drop]; (clear en lln hls hle e1 h0; lia)) (by decide)) ?_
      rw [S8_app]
      exact ite_no (ne_S8 rfl) (tail _ _ _ _ _ _ iv')
    have hm := Nat.mod_lt (colAt cs (o - 1) w) hw0
    refine And.intro hle (And.intro (show -((S8 cs).length : Int) ≤ (o : Int) - 1 by (clear hm e1 ho hn; lia)) (And.intro (show (o : Int) - 1 < ((S8 cs).length : Int) by rw [S8_len]; (clear hm hle e1; lia)) ?_))
    rw [e1, item_nn cs (cAt_get (show o - 1 < cs.length by lia))]
    show ((S8 [cAt cs (o - 1)] == S8 [9]) = true → _) ∧ ((S8 [cAt cs (o - 1)] == S8 [9]) = false → _)
    rw [S8_beq]
    refine And.intro (fun h3 => ?_) (fun h3 => ?_)
    · have h3 : cAt cs (o - 1) = 9 := by have := of_decide_eq_true h3; simpa using this
      refine And.intro (show ((w : Nat) : Int) ≠ 0 by (clear hm hw lln hx hls lt hle e1; lia)) ?_
      rw [fmod_nat]
      have eu : ((w : Nat) : Int) - ((colAt cs (o - 1) w % w : Nat) : Int) - 1 = ((unt cs (o - 1) w - 1 : Nat) : Int) := by unfold unt; (clear h3 lln hls lt hle e1; lia)
      refine And.intro (show (1 : Nat) ≤ 16 by decide) (And.intro (show (0 : Int) ≤ ((w : Nat) : Int) - ((colAt cs (o - 1) w % w : Nat) : Int) - 1 by (clear eu lln hls lt hle e1; lia)) (And.intro (show ((w : Nat) : Int) - ((colAt cs (o - 1) w % w : Nat) : Int) - 1 ≤ 1000000 by (clear eu hw lln hls lt hle e1; lia)) ?_))
      rw [eu, show Txt.mul ⟨#[32]⟩ ((unt cs (o - 1) w - 1 : Nat) : Int) = S8 (List.replicate (unt cs (o - 1) w - 1) 32) from mul_S8 _]
      exact fin _ (if_pos h3) (by unfold unt; (clear eu h3 hw lln hls lt hle e1; lia))
    · have h3 : cAt cs (o - 1) ≠ 9 := by have := of_decide_eq_false h3; simpa using this
      exact fin 0 (if_neg h3) (by decide)
  have go : ∀ (l : List Nat) (col : Nat) (d : D), colL w l col = colAt cs (o - 1) w →
      forGo [21] (fun l m k => vcSs (Γ0 G GM) [.set 20 (.bin .add (.var 20) (.ite (.cmp .eq (.var 21) (.str ⟨#[9]⟩)) (.bin .sub (.var 19) (.bin .mod (.var 20) (.var 19))) (.int 1)))] l m k) (l.map fun c => D.str ⟨#[c]⟩) [sc, .mref a, TB r, x3, .str (S8 cs), .int f, .int ((o : Nat) : Int), VW cs f, .int (f + ((o : Nat) : Int)), x9, x10, x11, x12, x13, x14, x15, x16, x17, .str (S8 (lnOf cs (o - 1))), .int ((w : Nat) : Int), .int ((col : Nat) : Int), d, x22, x23, x24] μ'
        (sqK (Γ0 G GM) [.set 22 (.ite (.cmp .eq (.idx (.var 4) (.bin .sub (.var 6) (.int 1))) (.str ⟨#[9]⟩)) (.bin .mul (.str ⟨#[32]⟩) (.bin .sub (.bin .sub (.var 19) (.bin .mod (.var 20) (.var 19))) (.int 1))) (.str ⟨#[]⟩)),
      .ite (.cmp .ne (.call 32 [.var 4, .list [.call 22 [.var 7, .var 8, .var 19]], .var 5]) (.bin .add (.bin .add (.slc (.var 4) [] [.bin .sub (.var 6) (.int 1)]) (.var 22)) (.slc (.var 4) [.var 6] []))) [
        .ret (.bool false)] []] (sqK (Γ0 G GM) (bdL.drop 18) K)) := by
    intro l
    induction l with
    | nil =>
      intro col d e
      have e : col = colAt cs (o - 1) w := e
      rw [e]; exact post d
    | cons c l ih =>
      intro col d e
      have hm := Nat.mod_lt col hw0
      have step : ∀ n : Nat, wd c col w = n → forGo [21] (fun l m k => vcSs (Γ0 G GM) [.set 20 (.bin .add (.var 20) (.ite (.cmp .eq (.var 21) (.str ⟨#[9]⟩)) (.bin .sub (.var 19) (.bin .mod (.var 20) (.var 19))) (.int 1)))] l m k) (l.map fun c => D.str ⟨#[c]⟩) [sc, .mref a, TB r, x3, .str (S8 cs), .int f, .int ((o : Nat) : Int), VW cs f, .int (f + ((o : Nat) : Int)), x9, x10, x11, x12, x13, x14, x15, x16, x17, .str (S8 (lnOf cs (o - 1))), .int ((w : Nat) : Int), .int (((col : Nat) : Int) + ((n : Nat) : Int)), .str ⟨#[c]⟩, x22, x23, x24] μ'
        (sqK (Γ0 G GM) [.set 22 (.ite (.cmp .eq (.idx (.var 4) (.bin .sub (.var 6) (.int 1))) (.str ⟨#[9]⟩)) (.bin .mul (.str ⟨#[32]⟩) (.bin .sub (.bin .sub (.var 19) (.bin .mod (.var 20) (.var 19))) (.int 1))) (.str ⟨#[]⟩)),
      .ite (.cmp .ne (.call 32 [.var 4, .list [.call 22 [.var 7, .var 8, .var 19]], .var 5]) (.bin .add (.bin .add (.slc (.var 4) [] [.bin .sub (.var 6) (.int 1)]) (.var 22)) (.slc (.var 4) [.var 6] []))) [
        .ret (.bool false)] []] (sqK (Γ0 G GM) (bdL.drop 18) K)) := by
        intro n en
        have := ih (col + n) (.str ⟨#[c]⟩) (by rw [← e, ← en]; rfl)
        rw [show ((col + n : Nat) : Int) = ((col : Nat) : Int) + ((n : Nat) : Int) by (clear en hm e lln hls lt hle e1; lia)] at this
        exact this
      show ((S8 [c] == S8 [9]) = true → _) ∧ ((S8 [c] == S8 [9]) = false → _)
      rw [S8_beq]
      refine And.intro (fun h3 => ?_) (fun h3 => ?_)
      · have h3 : c = 9 := by have := of_decide_eq_true h3; simpa using this
        refine And.intro (show ((w : Nat) : Int) ≠ 0 by (clear hm e hw lln hx hls lt hle e1; lia)) ?_
        rw [fmod_nat]
        have := step (w - col % w) (by unfold wd; rw [if_pos h3])
        rw [show ((w - col % w : Nat) : Int) = ((w : Nat) : Int) - ((col % w : Nat) : Int) by (clear h3 e ih lln hls lt hle e1; lia)] at this
        exact this
      · have h3 : c ≠ 9 := by have := of_decide_eq_false h3; simpa using this
        exact step 1 (by unfold wd; rw [if_neg h3])
  exact go (lnOf cs (o - 1)) 0 _ rfl
end
noncomputable def piecesL : List (List Nat) := [[97], [40], [41], [32], [9], [10], [10], [10, 32, 10], [98, 32]]
theorem piece_ok : ∀ p ∈ piecesL, p.length ≤ 3 ∧ ∀ c ∈ p, al c = true := by decide
theorem flat_ok : ∀ ps : List (List Nat), (∀ p ∈ ps, p ∈ piecesL) → ps.flatten.length ≤ 3 * ps.length ∧ ∀ c ∈ ps.flatten, al c = true
  | [], _ => ⟨Nat.le_refl _, fun c h => by (cases h)⟩
  | p :: ps, h => by
    obtain ⟨i1, i2⟩ := flat_ok ps fun q hq => h q (.tail _ hq)
    obtain ⟨p1, p2⟩ := piece_ok p (h p (.head _))
    rw [List.flatten_cons]
    refine ⟨by rw [List.length_append, List.length_cons]; lia, fun c hc => ?_⟩
    rcases List.mem_append.mp hc with hc | hc
    · exact p2 c hc
    · exact i2 c hc
theorem joinL_flat : ∀ ls : List (List Nat), joinL [] ls = ls.flatten
  | [] => rfl
  | [a] => by show a = _; simp
  | a :: b :: r => by show a ++ [] ++ joinL [] (b :: r) = _; rw [joinL_flat (b :: r)]; simp
theorem hitsF_len (cs : List Nat) (o : Nat) : (hitsF cs o).length ≤ cs.length := by
  unfold hitsF
  rw [List.length_map]
  have := List.length_filter_le (fun i => isA cs (o + i)) (List.range (cs.length - o))
  rw [List.length_range] at this; lia
theorem hitsB_len (cs : List Nat) (o : Nat) : (hitsB cs o).length ≤ o := by
  unfold hitsB
  have := List.length_filter_le (isA cs) (List.range o)
  rw [List.length_range] at this; lia
section
variable {G GM : Nat → List D → Mem → KE → Prop} (g : Sps G GM) {K : KS} {sc x3 x4 x5 x6 x7 x8 x9 x10 x11 x12 x13 x14 x15 x16 x17 x18 x19 x20 x21 x22 x23 x24 : D} {a r : Addr} {μ : Mem} {cs : List Nat} {f : Int} {o : Nat}
theorem law_18 (h : LX cs f o) (tail : vcSs (Γ0 G GM) (bdL.drop 19) [sc, .mref a, TB r, x3, .str (S8 cs), .int f, .int ((o : Nat) : Int), VW cs f, .int (f + ((o : Nat) : Int)), x9, x10, x11, x12, x13, x14, x15, x16, x17, x18, x19, x20, x21, x22, .list (hD (hitsF cs o)), x24] μ K) : vcSs (Γ0 G GM) (bdL.drop 18) [sc, .mref a, TB r, x3, .str (S8 cs), .int f, .int ((o : Nat) : Int), VW cs f, .int (f + ((o : Nat) : Int)), x9, x10, x11, x12, x13, x14, x15, x16, x17, x18, x19, x20, x21, x22, x23, x24] μ K := by
  have hn := h.n; have ho := h.o
  have hle := S8_le h.n (show 100 ≤ 16777216 by decide)
  refine And.intro hle ?_
  rw [S8_len]
  refine And.intro (And.intro (show -2 ^ 60 ≤ ((o : Nat) : Int) by lia) (And.intro (show ((o : Nat) : Int) ≤ 2 ^ 60 by lia) (And.intro (show -2 ^ 60 ≤ ((cs.length : Nat) : Int) by (clear hle hn; lia)) (And.intro (show ((cs.length : Nat) : Int) ≤ 2 ^ 60 by lia) (show ((cs.length : Nat) : Int) - ((o : Nat) : Int) ≤ sizeLine by rw [sizeLine_eq]; lia))))) ?_
  have er : (((cs.length : Nat) : Int) - ((o : Nat) : Int)).toNat = cs.length - o := by (clear hle; lia)
  refine comp_fm (fun i : Nat => D.int (((o : Nat) : Int) + ((i : Nat) : Int))) (fun i => D.int (((o : Nat) : Int) + ((i : Nat) : Int))) (fun i => isA cs (o + i)) _ [] (fun x hx k' hk => ?_) (fun x hx k' hk => hk) ?_
  · rw [List.mem_range, er] at hx
    refine And.intro hle (And.intro (show -((S8 cs).length : Int) ≤ ((o : Nat) : Int) + ((x : Nat) : Int) by (clear er hle ho hn; lia)) (And.intro (show ((o : Nat) : Int) + ((x : Nat) : Int) < ((S8 cs).length : Int) by rw [S8_len]; (clear er hle; lia)) ?_))
    rw [show ((o : Nat) : Int) + ((x : Nat) : Int) = ((o + x : Nat) : Int) by (clear er hle; lia), item_nn cs (cAt_get (show o + x < cs.length by (clear er hle; lia)))]
    show ((S8 [cAt cs (o + x)] == S8 [97]) = false → _) ∧ ((S8 [cAt cs (o + x)] == S8 [97]) = true → _)
    rw [S8_beq]
    have e : decide ([cAt cs (o + x)] = [97]) = isA cs (o + x) := by unfold isA; simp
    rw [e]
    refine And.intro (fun q => ?_) (fun q => ?_)
    · rw [q] at hk; exact hk
    · rw [q] at hk; exact hk
  · rw [er]
    have e : ((List.range (cs.length - o)).filter fun i => isA cs (o + i)).map (fun i => D.int (((o : Nat) : Int) + ((i : Nat) : Int))) = hD (hitsF cs o) := by
      unfold hD hitsF
      rw [List.map_map]; rfl
    rw [e]
    exact tail
include g
theorem law_19 (h : LX cs f o) (tail : vcSs (Γ0 G GM) (bdL.drop 20) [sc, .mref a, TB r, x3, .str (S8 cs), .int f, .int ((o : Nat) : Int), VW cs f, .int (f + ((o : Nat) : Int)), x9, x10, x11, x12, x13, x14, x15, x16, x17, x18, x19, x20, x21, x22, .list (hD (hitsF cs o)), x24] μ K) : vcSs (Γ0 G GM) (bdL.drop 19) [sc, .mref a, TB r, x3, .str (S8 cs), .int f, .int ((o : Nat) : Int), VW cs f, .int (f + ((o : Nat) : Int)), x9, x10, x11, x12, x13, x14, x15, x16, x17, x18, x19, x20, x21, x22, .list (hD (hitsF cs o)), x24] μ K := by
  have hn := h.n; have ho := h.o
  have hl := hitsF_len cs o
  have hl2 : (hD (hitsF cs o)).length ≤ sizeLine := by unfold hD; rw [List.length_map, sizeLine_eq]; (clear ho; lia)
  refine g.c23 _ _ _ ⟨cs, f, o, 97, 2, h.tx.toSm, h.o, .inl ⟨rfl, ?_⟩⟩
  rw [zf_law cs h.o]
  generalize hitsF cs o = H at *
  refine And.intro hl2 ?_
  match H with
  | [] =>
    exact And.intro (fun q => by cases q) (fun _ => ite_no rfl tail)
  | [x] =>
    exact And.intro (fun q => by cases q) (fun _ => ite_no rfl tail)
  | x :: y :: t =>
    refine And.intro (fun _ => ?_) (fun q => ?_)
    · refine And.intro hl2 ⟨.int ((y : Nat) : Int), hD_get (l := x :: y :: t) (n := 1) rfl, ?_⟩
      refine ite_no ?_ tail
      have e : f + ((y + 1 : Nat) : Int) = f + ((y : Nat) : Int) + 1 := by (clear hl2 hl ho hn; lia)
      show (f + ((y + 1 : Nat) : Int) != f + ((y : Nat) : Int) + 1) = false
      rw [e]; simp
    · have q : ¬ (1 : Int) < ((hD (x :: y :: t)).length : Nat) := of_decide_eq_false q
      unfold hD at q
      rw [List.length_map, List.length_cons, List.length_cons] at q
      (clear hl2 hl ho hn; lia)
omit g in
theorem law_20 (h : LX cs f o) (tail : vcSs (Γ0 G GM) (bdL.drop 21) [sc, .mref a, TB r, x3, .str (S8 cs), .int f, .int ((o : Nat) : Int), VW cs f, .int (f + ((o : Nat) : Int)), x9, x10, x11, x12, x13, x14, x15, x16, x17, x18, x19, x20, x21, x22, .list (hD (hitsB cs o)), x24] μ K) : vcSs (Γ0 G GM) (bdL.drop 20) [sc, .mref a, TB r, x3, .str (S8 cs), .int f, .int ((o : Nat) : Int), VW cs f, .int (f + ((o : Nat) : Int)), x9, x10, x11, x12, x13, x14, x15, x16, x17, x18, x19, x20, x21, x22, x23, x24] μ K := by
  have hn := h.n; have ho := h.o
  have hle := S8_le h.n (show 100 ≤ 16777216 by decide)
  refine And.intro (And.intro (show -2 ^ 60 ≤ ((o : Nat) : Int) by lia) (show ((o : Nat) : Int) ≤ sizeLine by rw [sizeLine_eq]; lia)) ?_
  refine comp_fm (fun i : Nat => D.int ((i : Nat) : Int)) (fun i => D.int ((i : Nat) : Int)) (fun i => isA cs i) _ [] (fun x hx k' hk => ?_) (fun x hx k' hk => hk) ?_
  · rw [List.mem_range, Int.toNat_natCast] at hx
    refine And.intro hle (And.intro (show -((S8 cs).length : Int) ≤ ((x : Nat) : Int) by (clear ho hn; lia)) (And.intro (show ((x : Nat) : Int) < ((S8 cs).length : Int) by rw [S8_len]; (clear hle; lia)) ?_))
    rw [item_nn cs (cAt_get (show x < cs.length by (clear hle; lia)))]
    show ((S8 [cAt cs x] == S8 [97]) = false → _) ∧ ((S8 [cAt cs x] == S8 [97]) = true → _)
    rw [S8_beq]
    have e : decide ([cAt cs x] = [97]) = isA cs x := by unfold isA; simp
    rw [e]
    refine And.intro (fun q => ?_) (fun q => ?_)
    · rw [q] at hk; exact hk
    · rw [q] at hk; exact hk
  · exact tail
theorem law_21 (h : LX cs f o) (tail : vcSs (Γ0 G GM) [] [sc, .mref a, TB r, x3, .str (S8 cs), .int f, .int ((o : Nat) : Int), VW cs f, .int (f + ((o : Nat) : Int)), x9, x10, x11, x12, x13, x14, x15, x16, x17, x18, x19, x20, x21, x22, .list (hD (hitsB cs o)), x24] μ K) : vcSs (Γ0 G GM) (bdL.drop 21) [sc, .mref a, TB r, x3, .str (S8 cs), .int f, .int ((o : Nat) : Int), VW cs f, .int (f + ((o : Nat) : Int)), x9, x10, x11, x12, x13, x14, x15, x16, x17, x18, x19, x20, x21, x22, .list (hD (hitsB cs o)), x24] μ K := by
  have hn := h.n; have ho := h.o
  have hl := hitsB_len cs o
  have hl2 : (hD (hitsB cs o)).length ≤ sizeLine := by unfold hD; rw [List.length_map, sizeLine_eq]; lia
  refine g.c23 _ _ _ ⟨cs, f, o, 97, 1, h.tx.toSm, h.o, .inr ⟨rfl, ?_⟩⟩
  rw [zb_law, ← bk_law]
  generalize hitsB cs o = H at *
  refine And.intro (.inl ⟨H.map fun n => ((n : Nat) : Int), by unfold hD; rw [List.map_map]; rfl⟩) (And.intro hl2 ?_)
  rcases nil_or_snoc H with rfl | ⟨H0, z, rfl⟩
  · exact And.intro (fun q => by cases q) (fun _ => ite_no rfl tail)
  · refine And.intro (fun _ => ?_) (fun q => ?_)
    · refine And.intro hl2 ⟨_, hD_last, ite_no ?_ tail⟩
      rw [List.getLast?_append]
      show (f + ((z : Nat) : Int) != f + ((z : Nat) : Int)) = false
      simp
    · cases H0 <;> cases q
theorem law_0 (iv : Iv a r μ) (tail : ∀ (cs : List Nat) μ', cs.length ≤ 100 → (∀ i, i < cs.length → al (cAt cs i) = true) → Iv a r μ' → vcSs (Γ0 G GM) (bdL.drop 1) [sc, .mref a, TB r, x3, .str (S8 cs), x5, x6, x7, x8, x9, x10, x11, x12, x13, x14, x15, x16, x17, x18, x19, x20, x21, x22, x23, x24] μ' K) : vcSs (Γ0 G GM) bdL [sc, .mref a, TB r, x3, x4, x5, x6, x7, x8, x9, x10, x11, x12, x13, x14, x15, x16, x17, x18, x19, x20, x21, x22, x23, x24] μ K := by
  refine And.intro trivial (g.c28 _ _ _ ⟨a, 11, rfl, by decide, by decide, iv.d, fun x μ' hx hu => And.intro (And.intro (show -2 ^ 60 ≤ (1 : Int) + ((x : Nat) : Int) by (clear hx; lia)) (show (1 : Int) + ((x : Nat) : Int) ≤ sizeLine by rw [sizeLine_eq]; lia)) ?_⟩)
  have iv1 := iv.up hu
  have er : ((1 : Int) + ((x : Nat) : Int)).toNat = x + 1 := by lia
  have go : ∀ (l : List D) (ps : List (List Nat)) (m : Mem), (∀ p ∈ ps, p ∈ piecesL) → ps.length + l.length ≤ 12 → Iv a r m →
      compGo (fun x μ k => vcAnd (Γ0 G GM) [] ([sc, .mref a, TB r, x3, x4, x5, x6, x7, x8, x9, x10, x11, x12, x13, x14, x15, x16, x17, x18, x19, x20, x21, x22, x23, x24] ++ [x]) μ k) (fun x μ k => vcE (Γ0 G GM) (.call 30 [.var 1, .list [.str ⟨#[97]⟩, .str ⟨#[40]⟩, .str ⟨#[41]⟩, .str ⟨#[32]⟩, .str ⟨#[9]⟩, .str ⟨#[10]⟩, .str ⟨#[10]⟩, .str ⟨#[10, 32, 10]⟩, .str ⟨#[98, 32]⟩]]) ([sc, .mref a, TB r, x3, x4, x5, x6, x7, x8, x9, x10, x11, x12, x13, x14, x15, x16, x17, x18, x19, x20, x21, x22, x23, x24] ++ [x]) μ k) l (LS ps) m
        (fun ys μ2 => mkD .join (.str ⟨#[]⟩) [.list ys] μ2 fun d μ1 => vcSs (Γ0 G GM) (bdL.drop 1) ([sc, .mref a, TB r, x3, x4, x5, x6, x7, x8, x9, x10, x11, x12, x13, x14, x15, x16, x17, x18, x19, x20, x21, x22, x23, x24].set 4 d) μ1 K) := by
    intro l
    induction l with
    | nil =>
      intro ps m hp hn ivm
      obtain ⟨f1, f2⟩ := flat_ok ps hp
      rw [List.length_nil] at hn
      refine ⟨ps.map S8, by rw [List.map_map]; rfl, joinOk_S8 (sep := []) (B := 3) (fun p h => (piece_ok p (hp p h)).1) (by show ps.length * 3 + ps.length * 0 ≤ _; (clear f1 er hx; lia)), ?_⟩
      show vcSs (Γ0 G GM) (bdL.drop 1) [sc, .mref a, TB r, x3, .str (Txt.join (S8 []) (ps.map S8)), x5, x6, x7, x8, x9, x10, x11, x12, x13, x14, x15, x16, x17, x18, x19, x20, x21, x22, x23, x24] m K
      rw [join_S8, joinL_flat]
      refine tail ps.flatten m (by (clear er hx; lia)) (fun i hi => f2 _ (cAt_mem hi)) ivm
    | cons d l ih =>
      intro ps m hp hn ivm
      rw [List.length_cons] at hn
      refine ⟨true, rfl, fun _ => ?_, fun q => by cases q⟩
      refine g.c30 _ _ _ ⟨a, LS piecesL, rfl, by decide, by decide, ivm.d, fun y m' hy hu' => ?_⟩
      obtain ⟨p, hp', rfl⟩ := List.mem_map.mp hy
      have := ih (ps ++ [p]) m' (fun q hq => by
        rcases List.mem_append.mp hq with hq | hq
        · exact hp q hq
        · simp at hq; rw [hq]; exact hp') (by rw [List.length_append]; show ps.length + 1 + _ ≤ _; (clear er hx; lia)) (ivm.up hu')
      unfold LS at this
      rw [List.map_append] at this
      exact this
  refine go _ [] μ' (fun p h => by cases h) ?_ iv1
  rw [List.length_map, List.length_range, er]; show 0 + (x + 1) ≤ 12; (clear er; lia)
theorem law_1 (hn : cs.length ≤ 100) (iv : Iv a r μ) (tail : ∀ (f : Int) (o : Nat) μ', 1 ≤ f → f ≤ 10 → o ≤ cs.length → Iv a r μ' → vcSs (Γ0 G GM) (bdL.drop 2) [sc, .mref a, TB r, x3, .str (S8 cs), .int f, .int ((o : Nat) : Int), x7, x8, x9, x10, x11, x12, x13, x14, x15, x16, x17, x18, x19, x20, x21, x22, x23, x24] μ' K) : vcSs (Γ0 G GM) (bdL.drop 1) [sc, .mref a, TB r, x3, .str (S8 cs), x5, x6, x7, x8, x9, x10, x11, x12, x13, x14, x15, x16, x17, x18, x19, x20, x21, x22, x23, x24] μ K := by
  refine g.c28 _ _ _ ⟨a, 3, rfl, by decide, by decide, iv.d, fun x μ' hx hu => ?_⟩
  refine And.intro (S8_le hn (by decide)) ?_
  rw [S8_len]
  refine g.c28 _ _ _ ⟨a, cs.length + 1, rfl, by (clear hn; lia), by lia, (iv.up hu).d, fun y μ'' hy hu' => ?_⟩
  exact tail (1 + ((x : Nat) : Int)) y μ'' (by (clear hx; lia)) (by (clear hn; lia)) (by (clear hx; lia)) ((iv.up hu).up hu')
theorem law_2 (hn : cs.length ≤ 100) (tail : vcSs (Γ0 G GM) (bdL.drop 3) [sc, .mref a, TB r, x3, .str (S8 cs), .int f, .int ((o : Nat) : Int), VW cs f, .int (f + ((o : Nat) : Int)), x9, x10, x11, x12, x13, x14, x15, x16, x17, x18, x19, x20, x21, x22, x23, x24] μ K) : vcSs (Γ0 G GM) (bdL.drop 2) [sc, .mref a, TB r, x3, .str (S8 cs), .int f, .int ((o : Nat) : Int), x7, x8, x9, x10, x11, x12, x13, x14, x15, x16, x17, x18, x19, x20, x21, x22, x23, x24] μ K := by
  refine And.intro (by show (cs.map _).length ≤ _; rw [List.length_map, sizeLine_eq]; lia) ?_
  refine comp_map (fun c : Nat => D.str ⟨#[c]⟩) (fun c => D.int ((c : Nat) : Int)) cs (fun x hx k' h => h) (fun x hx k' h => ⟨x, rfl, h⟩) ?_
  exact g.c37 _ _ _ ⟨cs, f, .inl rfl, by lia, (tail)⟩
theorem law_body (iv : Iv a r μ) (tail : ∀ (x4 x5 x6 x7 x8 x9 x10 x11 x12 x13 x14 x15 x16 x17 x18 x19 x20 x21 x22 x23 : D) μ', Iv a r μ' → vcSs (Γ0 G GM) [] [sc, .mref a, TB r, x3, x4, x5, x6, x7, x8, x9, x10, x11, x12, x13, x14, x15, x16, x17, x18, x19, x20, x21, x22, x23, x24] μ' K) : vcSs (Γ0 G GM) bdL [sc, .mref a, TB r, x3, x4, x5, x6, x7, x8, x9, x10, x11, x12, x13, x14, x15, x16, x17, x18, x19, x20, x21, x22, x23, x24] μ K := by
  refine law_0 g iv fun cs μ1 hn hal iv1 => ?_
  refine law_1 g hn iv1 fun f o μ2 f1 f2 ho iv2 => ?_
  have h : LX cs f o := ⟨⟨⟨by lia, f1, by (clear f1 hn; lia)⟩, hal⟩, hn, ho⟩
  refine law_2 g hn (law_3 g h (law_4 g h (law_5 g h (law_6 g h (law_7 g iv2 fun q μ3 hq iv3 => ?_)))))
  refine law_8 g h hq (law_9 g h iv3 (law_10 h (law_11 g h iv3 (law_12 g h iv3 fun lo hi μ4 h1 h2 iv4 => ?_))))
  refine law_13 h h1 h2 (law_14 h h1 h2 (law_15 h h1 h2 (law_16 g h iv4 h1 h2 fun μ5 iv5 => ?_)))
  refine law_17 g h iv5 fun y18 y19 y20 y21 y22 μ6 iv6 => ?_
  exact law_18 h (law_19 g h (law_20 h (law_21 g h (tail _ _ _ _ _ _ _ _ _ _ _ _ _ _ _ _ _ _ _ _ _ iv6))))
omit cs f o in
theorem vc_law (ns : List Int) (hn : ns.length ≤ 63) (k : KE) (hk : ∀ μ', k (.bool true) μ') : vcSs (Γ0 G GM) ms_law ([.list (ns.map .int)] ++ List.replicate 24 .undef) μ (retK k) := by
  refine g.c29 _ _ _ ⟨ns, rfl, hn, fun a xs ha hx => ?_⟩
  refine g.c27 _ _ _ ⟨rfl, fun r kvs hr ht => ?_⟩
  have hne : a ≠ r := by
    intro e
    rw [e, look_cons] at hr; cases hr
  have iv : Iv a r ((r, .dict kvs) :: (a, .lst (dkD xs)) :: μ) := ⟨⟨xs, hx, by rw [look_ne hne.symm, look_cons]⟩, ⟨kvs, look_cons _ _ _, ht⟩, hne⟩
  refine And.intro (And.intro (show -2 ^ 60 ≤ (2 : Int) by decide) (show (2 : Int) ≤ sizeLine by rw [sizeLine_eq]; decide)) ?_
  refine law_body g iv fun x4 x5 x6 x7 x8 x9 x10 x11 x12 x13 x14 x15 x16 x17 x18 x19 x20 x21 x22 x23 μ1 iv1 => ?_
  refine law_body g iv1 fun x4 x5 x6 x7 x8 x9 x10 x11 x12 x13 x14 x15 x16 x17 x18 x19 x20 x21 x22 x23 μ2 iv2 => ?_
  refine g.c37 _ _ _ ⟨[97, 10, 10, 10, 10, 98], 1, .inr ⟨rfl, rfl⟩, by decide, ?_⟩
  have z : Zi [97, 10, 10, 10, 10, 98] [[97], []] [] [[], [98]] := ⟨rfl, by decide⟩
  obtain ⟨b1, b2⟩ := z.ble (j := 0) (Nat.le_refl _) (by decide)
  have sm : Sm [97, 10, 10, 10, 10, 98] 1 := ⟨by decide, by decide, by decide⟩
  have e3 : (catL [[97], []]).length + 0 = 3 := rfl
  rw [e3] at b1 b2
  refine g.c19 _ _ _ ⟨[97, 10, 10, 10, 10, 98], 1, 3, rfl, sm, by decide, ?_⟩
  exact (g.c32.dn (t := [97, 10, 10, 10, 10, 98]) (f := 1) (es := bleE [97, 10, 10, 10, 10, 98] 3) (edL_eq 1 _) (by decide) b1 (res := [97, 10, 10, 98]) (b2.trans (by decide)) (hk _))
end
inductive Src where
  | nm (y : Str)
  | lst (y : Str)
  | dct
noncomputable def onDict (e : PySem.Expr) (k : List (Option PySem.Expr) → List PySem.Expr → Bool) : Bool := gd (Nat.beq e.ctorIdx 6) fun h => PySem.Expr.Dict.elim e (Nat.eq_of_beq_eq_true h) fun a b p => k a b
theorem onDict_inv {e : PySem.Expr} {k : List (Option PySem.Expr) → List PySem.Expr → Bool} (h : onDict e k = true) : ∃ a b p, e = .Dict a b p ∧ k a b = true := by
  obtain ⟨a, w⟩ := gd_inv h
  exact PySem.Expr.Dict.elim (motive_1 := fun e => ∀ a, PySem.Expr.Dict.elim e a (fun a b p => k a b) = true → ∃ a b p, e = .Dict a b p ∧ k a b = true) e (Nat.eq_of_beq_eq_true a) (fun a b p _ w => ⟨a, b, p, rfl, w⟩) (Nat.eq_of_beq_eq_true a) w
noncomputable def srcOk (sc : Scope) (sr : Src) (e : PySem.Expr) : Bool := match sr with
  | .nm y => onName e fun z => sb z y && (notDbg y && isL (lkS y sc.names))
  | .lst y => onFn e fun l a => sb l (Str.ofString "list") && (isG ⟨[], sc⟩ (Str.ofString "list") && on1 a fun z => onName z fun z => sb z y && (notDbg y && isL (lkS y sc.names)))
  | .dct => onDict e fun a b => a.isEmpty && b.isEmpty
noncomputable def initOk (sc : Scope) (self : Str) : List (Str × Src) → List PySem.Stmt → Bool
  | [], b => b.isEmpty
  | x :: r, [] => false
  | x :: r, st :: t => onAsg st fun ts v => on1 ts fun a => onAttr a fun o g _ => onName o fun z => sb z self && (sb g x.1 && (srcOk sc x.2 v && initOk sc self r t))
theorem srcOk_nm {sc : Scope} {y : Str} {e : PySem.Expr} (h : srcOk sc (.nm y) e = true) : ∃ p, e = .Name y p ∧ (y == ("__debug__" : Str)) = false ∧ sc.names.lookup y = some .local := by
  obtain ⟨z, p, rfl, w⟩ := onName_inv h
  obtain ⟨w1, w2⟩ := an2 w
  obtain ⟨w3, w4⟩ := an2 w2
  obtain rfl := sb_eq w1
  exact ⟨p, rfl, notDbg_of w3, lkS_eq ▸ isL_of w4⟩
theorem srcOk_dct {sc : Scope} {e : PySem.Expr} (h : srcOk sc .dct e = true) : ∃ p, e = .Dict [] [] p := by
  obtain ⟨a, b, p, rfl, w⟩ := onDict_inv h
  obtain ⟨w1, w2⟩ := an2 w
  obtain rfl := List.isEmpty_iff.mp w1
  obtain rfl := List.isEmpty_iff.mp w2
  exact ⟨p, rfl⟩
theorem srcOk_lst {sc : Scope} {y : Str} {e : PySem.Expr} (h : srcOk sc (.lst y) e = true) : ∃ p0 p1 p2, e = .Call (.Name (Str.ofString "list") p0) [.Name y p1] [] p2 ∧ sc.names.lookup (Str.ofString "list") = some .globalImplicit ∧ (y == ("__debug__" : Str)) = false ∧ sc.names.lookup y = some .local := by
  obtain ⟨f, p0, a, p2, rfl, w⟩ := onFn_inv h
  obtain ⟨w1, w2⟩ := an2 w
  obtain rfl := sb_eq w1
  obtain ⟨w3, w4⟩ := an2 w2
  obtain ⟨z, rfl, w5⟩ := on1_inv w4
  obtain ⟨u1, u2⟩ := srcOk_nm (sc := sc) (y := y) w5
  exact ⟨p0, u1, p2, by rw [u2.1], (isG_of w3).1, u2.2⟩
theorem initOk_cons {sc : Scope} {self f : Str} {sr : Src} {r : List (Str × Src)} {b : List PySem.Stmt} (h : initOk sc self ((f, sr) :: r) b = true) :
    ∃ p1 p2 v p3 t, b = .Assign [.Attribute (.Name self p1) f p2] v p3 :: t ∧ srcOk sc sr v = true ∧ initOk sc self r t = true := by
  cases b with
  | nil => cases h
  | cons st t =>
    obtain ⟨ts, v, p3, rfl, w1⟩ := onAsg_inv h
    obtain ⟨a, rfl, w2⟩ := on1_inv w1
    obtain ⟨o, g, p2, rfl, w3⟩ := onAttr_inv w2
    obtain ⟨z, p1, rfl, w4⟩ := onName_inv w3
    obtain ⟨w5, w6⟩ := an2 w4
    obtain ⟨w7, w8⟩ := an2 w6
    obtain rfl := sb_eq w5
    obtain rfl := sb_eq w7
    exact ⟨p1, p2, v, p3, t, rfl, an2 w8⟩
theorem initOk_nil {sc : Scope} {self : Str} {b : List PySem.Stmt} (h : initOk sc self [] b = true) : b = [] := List.isEmpty_iff.mp h
noncomputable def vcI (ρ : Str → Option D) : List (Str × Src) → List (Str × D) → Mem → (List (Str × D) → Mem → Prop) → Prop
  | [], fs, μ, k => k fs μ
  | (f, .nm y) :: r, fs, μ, k => ∃ d, ρ y = some d ∧ f ∉ fs.map (·.1) ∧ vcI ρ r (fs ++ [(f, d)]) μ k
  | (f, .lst y) :: r, fs, μ, k => ∃ xs, ρ y = some (.list xs) ∧ xs.length ≤ sizeLine ∧ f ∉ fs.map (·.1) ∧ vcI ρ r (fs ++ [(f, .list xs)]) μ k
  | (f, .dct) :: r, fs, μ, k => f ∉ fs.map (·.1) ∧ ∀ a, lookM μ a = none → vcI ρ r (fs ++ [(f, .mref a)]) ((a, .dict []) :: μ) k
theorem putL_new {B : Heap} {T : Led} {X : List Addr} {name : Str} {hh : Int} {key v : Value} : ∀ {fs : List (Str × D)} {es : List DictEntry}, RdF B T X es fs → name ∉ fs.map (·.1) → putL name hh key v es = es ++ [⟨hh, key, v⟩]
  | [], es, h, _ => by cases h; rfl
  | (x, d') :: fs, es, h, h2 => by
    obtain ⟨h1, t, u, r, rfl, a, b⟩ := h
    simp only [List.map_cons, List.mem_cons, not_or] at h2
    unfold putL
    rw [isStr_ne (fun e => h2.1 e.symm)]
    rw [if_neg Bool.false_ne_true, putL_new b h2.2]; rfl
theorem RdF.snoc {B : Heap} {T : Led} {X : List Addr} {name : Str} {hh : Int} {t : Tok} {v : Value} {d : D} (r : Rd B T X v d) : ∀ {fs : List (Str × D)} {es : List DictEntry}, RdF B T X es fs → RdF B T X (es ++ [⟨hh, .str name t, v⟩]) (fs ++ [(name, d)])
  | [], es, h => by
    cases h
    show RdF B T X [_] [(name, d)]
    refine ⟨hh, t, v, [], rfl, r, ?_⟩
    rfl
  | (x, d') :: fs, es, h => by
    obtain ⟨h1, t', u, r', rfl, a, b⟩ := h
    rw [List.cons_append, List.cons_append]
    exact ⟨h1, t', u, _, rfl, a, RdF.snoc r b⟩
theorem RdF.len {B : Heap} {T : Led} {X : List Addr} : ∀ {fs : List (Str × D)} {es : List DictEntry}, RdF B T X es fs → es.length = fs.length
  | [], es, h => by cases h; rfl
  | (x, d') :: fs, es, h => by
    obtain ⟨h1, t', u, r', rfl, a, b⟩ := h
    rw [List.length_cons, List.length_cons, RdF.len b]
structure IO (C : Cx) (g : Heap) (L : Addr) (s : Shared) (m : Str → Option Value) (T : Led) (X : List Addr) (μ : Mem) (c x dx : Addr) (fs : List (Str × D)) : Prop where
  O : Ok C g L s m T X μ
  obj : ∃ es n, News g L s.heap [(x, instObj c dx), (dx, dictOf es n)] ∧ RdF C.B T X es fs
  ap : ∀ p ∈ T, p.1 ≠ dx ∧ p.1 ≠ x
  ne : x ≠ dx
structure ClsOk (K : Frag) (c : Addr) (names : List Str) : Prop where
  hs : findIn K (.ref c) "__setattr__" = some (some (.builtin "object.__setattr__"))
  hp : plainOver K c = true
  hh : hasDictIn K c = true
  ht : ∀ x ∈ names, takerIn K c x = some none
section
variable {C : Cx} {g : Heap} {L : Addr} {s : Shared} {m : Str → Option Value} {T : Led} {X : List Addr} {μ : Mem} {c x dx : Addr} {fs : List (Str × D)} {A : Around} {E : Value → Shared → Prop}
theorem IO.set {Q : Unit → Shared → Prop} (I : IO C g L s m T X μ c x dx fs) (hK : C.K.In g) {names : List Str} (hc : ClsOk C.K c names) {name : Str} (hn : name ∈ names) {v : Value} {d : D} (r : Rd C.B T X v d) (hf : name ∉ fs.map (·.1)) (hl : fs.length ≤ 20)
    (h : ∀ h' tk, IO C g L { s with heap := h', toks := tk } m T X μ c x dx (fs ++ [(name, d)]) → Q () { s with heap := h', toks := tk }) : wpAny (model C.prog C.w) A (setAttr (.ref x) name v) Q E s := by
  obtain ⟨es, n, N2, R⟩ := I.obj
  have N : News g L s.heap ((x, instObj c dx) :: (dx, dictOf es n) :: T) := fun p hp => by
    rcases List.mem_cons.mp hp with rfl | hp
    · exact N2 _ (.head _)
    · rcases List.mem_cons.mp hp with rfl | hp
      · exact N2 _ (.tail _ (.head _))
      · exact I.O.N _ hp
  refine set_dict I.O.F hK N ⟨(N2 _ (.head _)).1, rfl, rfl, (N2 _ (.tail _ (.head _))).1⟩ rfl hc.hs hc.hp (hc.ht name hn) hc.hh (by rw [getL_none R hf]; rfl) rfl (.tail I.ne (.head fun p hp => (I.ap p hp).1)) ?_ fun h' F' N' => h h' _ ⟨?_, ⟨putL name (PyData.keyHash C.w.params name) (.str name (s.toks + 1)) v es, putN name es n, ?_, ?_⟩, I.ap, I.ne⟩
  · rw [putL_new R hf, List.length_append, R.len]; show _ + 1 ≤ _; lia
  · exact I.O.more F' (fun p hp => N' p (.tail _ (.tail _ hp))) fun _ h => h
  · intro p hp
    rcases List.mem_cons.mp hp with rfl | hp
    · exact N' _ (.head _)
    · rcases List.mem_cons.mp hp with rfl | hp
      · exact N' _ (.tail _ (.head _))
      · cases hp
  · rw [putL_new R hf]; exact R.snoc r
theorem IO.news (I : IO C g L s m T X μ c x dx fs) : ∃ es n, News g L s.heap ((x, instObj c dx) :: (dx, dictOf es n) :: T) ∧ RdF C.B T X es fs := by
  obtain ⟨es, n, N2, R⟩ := I.obj
  refine ⟨es, n, fun p hp => ?_, R⟩
  rcases List.mem_cons.mp hp with rfl | hp
  · exact N2 _ (.head _)
  · rcases List.mem_cons.mp hp with rfl | hp
    · exact N2 _ (.tail _ (.head _))
    · exact I.O.N _ hp
theorem news_cut {h' : Heap} {a b1 b2 : Addr} {o o1 o2 : Obj} (N : News g L h' ((a, o) :: (b1, o1) :: (b2, o2) :: T)) : News g L h' ((a, o) :: T) ∧ News g L h' [(b1, o1), (b2, o2)] := by
  refine ⟨fun p hp => ?_, fun p hp => ?_⟩
  · rcases List.mem_cons.mp hp with rfl | hp
    · exact N _ (.head _)
    · exact N _ (.tail _ (.tail _ (.tail _ hp)))
  · exact N _ (.tail _ (by
      rcases List.mem_cons.mp hp with rfl | hp
      · exact .head _
      · rcases List.mem_cons.mp hp with rfl | hp
        · exact .tail _ (.head _)
        · cases hp))
theorem init_run {n : Nat} {A₀ : Around} {env : Env} {outer : List Env} (Fm_ : Fm C n A A₀ env outer g L) {names : List Str} (hc : ClsOk C.K c names) {sc : Scope} {self : Str} (hself : sc.names.lookup self = some .local) (hdself : (self == ("__debug__" : Str)) = false)
    (hk : env.scope.kind = .function) (hgs : env.globals = mainGlobals) (hbs : env.builtins = builtinsNs) (hLl : env.locals = L) (hkind : ∀ y kd, sc.names.lookup y = some kd → env.kindOf y = some kd)
    (hlist : C.mg (Str.ofString "list") = none ∧ C.mb (Str.ofString "list") = some (.type "list")) {ρ : Str → Option D} {Q : Flow → Shared → Prop} {k : List (Str × D) → Mem → Prop} (hx : m self = some (.ref x)) :
    ∀ (l : List (Str × Src)) (body : List PySem.Stmt) (fs : List (Str × D)) (s : Shared) (T : Led) (X : List Addr) (μ : Mem), initOk sc self l body = true → (∀ p ∈ l, p.1 ∈ names) → fs.length + l.length ≤ 20 → IO C g L s m T X μ c x dx fs → (∀ y d, ρ y = some d → ∃ v, m y = some v ∧ Rd C.B T X v d) → vcI ρ l fs μ k →
      (∀ fs' h' tk T' X' μ', IO C g L { s with heap := h', toks := tk } m T' X' μ' c x dx fs' → Stp T X (keys μ) T' X' (keys μ') → k fs' μ' → Q .next { s with heap := h', toks := tk }) → wpAny (model C.prog C.w) A (execs body env) Q E s
  | [], body, fs, s, T, X, μ, ok, hnm, hlen, I, hρ, v, P => by
    obtain rfl := initOk_nil ok
    exact wpAny_execs_nil (P fs s.heap s.toks T X μ I (.refl ..) v)
  | (f, sr) :: l, body, fs, s, T, X, μ, ok, hnm, hlen, I, hρ, v, P => by
    obtain ⟨p1, p2, ve, p3, t, rfl, ok1, ok2⟩ := initOk_cons ok
    rw [List.length_cons] at hlen
    have hf := hnm _ (.head _)
    have rest : ∀ (d : D) (va : Value) (h1 : Heap) (tk1 : Nat) (T1 : Led) (X1 : List Addr) (μ1 : Mem), IO C g L { s with heap := h1, toks := tk1 } m T1 X1 μ1 c x dx fs → Stp T X (keys μ) T1 X1 (keys μ1) → Rd C.B T1 X1 va d → f ∉ fs.map (·.1) → vcI ρ l (fs ++ [(f, d)]) μ1 k →
        wpAny (model C.prog C.w) A (eval (.Name self p1) env) (fun ov s₂ => wpAny (model C.prog C.w) A (setAttr ov f va) (fun _ s₃ => wpAny (model C.prog C.w) A (execs t env) Q E s₃) E s₂) E { s with heap := h1, toks := tk1 } := by
      intro d va h1 tk1 T1 X1 μ1 I1 st1 r1 hnf v1
      refine wpAny_Name (wpAny_loadName_local hk (hkind _ _ hself) (hLl ▸ I1.O.F.ns) hx ?_) hdself
      refine I1.set Fm_.wd.k hc hf r1 hnf (by lia) fun h2 tk2 I2 => ?_
      refine init_run Fm_ hc hself hdself hk hgs hbs hLl hkind hlist hx l t (fs ++ [(f, d)]) { s with heap := h2, toks := tk2 } T1 X1 μ1 ok2 (fun p hp => hnm p (.tail _ hp)) (by rw [List.length_append]; show _ + 1 + _ ≤ _; lia) I2 (fun y d' hy => ?_) v1 fun fs' h' tk T' X' μ' I' st' hk' => ?_
      · obtain ⟨v', e1, e2⟩ := hρ y d' hy
        exact ⟨v', e1, Rd.lift (st1.lift I.O.sub) _ _ e2⟩
      · exact P fs' h' tk T' X' μ' I' (st1.trans st' I.O.sub) hk'
    refine wpAny_execs_cons ?_
    have sw : swapsWith ve (some (.Attribute (.Name self p1) f p2)) p3.line env = pure false := by
      cases sr with
      | nm y => obtain ⟨p, rfl, _⟩ := srcOk_nm ok1; rfl
      | lst y => obtain ⟨q0, q1, q2, rfl, _⟩ := srcOk_lst ok1; rfl
      | dct => obtain ⟨p, rfl⟩ := srcOk_dct ok1; rfl
    refine plainObj_wpAny_Assign_Attribute ?_ sw
    cases sr with
    | nm y =>
      obtain ⟨p, rfl, hdy, hly⟩ := srcOk_nm ok1
      obtain ⟨d, hd, hnf, v1⟩ := v
      obtain ⟨va, e1, e2⟩ := hρ y d hd
      exact wpAny_Name (wpAny_loadName_local hk (hkind _ _ hly) (hLl ▸ I.O.F.ns) e1 (rest d va s.heap s.toks T X μ I (.refl ..) e2 hnf v1)) hdy
    | lst y =>
      obtain ⟨q0, q1, q2, rfl, hlg, hdy, hly⟩ := srcOk_lst ok1
      obtain ⟨xs, hd, hsz, hnf, v1⟩ := v
      obtain ⟨va, e1, e2⟩ := hρ y _ hd
      obtain ⟨a, vs, rfl, hl, hr⟩ := rd_list I.O e2
      have W : Wd C s.heap := Fm_.wd.keeps I.O.F.keep
      refine Call_Name rfl (Name_function_global hk (hkind _ _ hlg) (loadGlobal_builtin (hgs ▸ W.g) hlist.1 (hbs ▸ W.b) hlist.2 ?_) (by decide))
      refine callWith_ty (ps := [.Name y q1]) (List.cons_ne_nil _ _) (spliced_cons (wpAny_Name (wpAny_loadName_local hk (hkind _ _ hly) (hLl ▸ I.O.F.ns) e1 (spliced_nil ?_)) hdy))
      obtain ⟨es, n', N, R⟩ := I.news
      refine list_copyK I.O.F N hl (fun D c' h' F' N' lt => ?_) (by rw [List.size_toArray, hr.length]; exact hsz)
      obtain ⟨Na, Nb⟩ := news_cut N'
      have O2 : Ok C g L { s with heap := h' } m ((D, listOf vs.toArray c') :: T) X μ := I.O.more F' Na fun _ h => .tail _ h
      have st : Stp T X (keys μ) ((D, listOf vs.toArray c') :: T) X (keys μ) := .cons _
      have hDX : D ∉ X := fun q => by
        obtain ⟨o, ho⟩ := I.O.xin _ q
        exact Nat.lt_irrefl _ (lt _ (.tail _ (.tail _ ho)))
      have l1 := lt _ (.head _)
      have l2 := lt _ (.tail _ (.head _))
      refine rest (.list xs) (.ref D) h' s.toks _ X μ ⟨O2, ⟨es, n', Nb, RdF.lift (st.lift I.O.sub) _ _ R⟩, fun p hp => ?_, I.ne⟩ st (to_list hDX (Rds.lift (st.lift I.O.sub) _ _ hr)) hnf v1
      rcases List.mem_cons.mp hp with rfl | hp
      · exact ⟨Nat.ne_of_gt l2, Nat.ne_of_gt l1⟩
      · exact I.ap p hp
    | dct =>
      obtain ⟨p, rfl⟩ := srcOk_dct ok1
      obtain ⟨hnf, v1⟩ := v
      obtain ⟨es, n', N, R⟩ := I.news
      refine newDict_K I.O.F N Fm_.wd.nl fun D h' o F' N' lt lo i1 i2 i3 i4 => ?_
      obtain ⟨Na, Nb⟩ := news_cut N'
      have hDT : ∀ p ∈ T, p.1 ≠ D := fun p hp => Nat.ne_of_lt (lt _ (.tail _ (.tail _ hp)))
      have O2 : Ok C g L { s with heap := h' } m ((D, o) :: T) (D :: X) ((D, .dict []) :: μ) := I.O.newO (tk := s.toks) hDT F' Na ⟨o, [], .head _, i3, rfl, .nil, Nat.zero_le _⟩
      have st : Stp T X (keys μ) ((D, o) :: T) (D :: X) (keys ((D, MO.dict []) :: μ)) := stp_new hDT
      have l1 := lt _ (.head _)
      have l2 := lt _ (.tail _ (.head _))
      have hDX : D ∉ keys μ := fun q => by
        obtain ⟨o, ho⟩ := I.O.xin _ (I.O.sub _ q)
        exact Nat.lt_irrefl _ (lt _ (.tail _ (.tail _ ho)))
      refine rest (.mref D) (.ref D) h' s.toks _ _ _ ⟨O2, ⟨es, n', Nb, RdF.lift (st.lift I.O.sub) _ _ R⟩, fun p hp => ?_, I.ne⟩ st to_mref hnf (v1 D (lookM_none hDX))
      rcases List.mem_cons.mp hp with rfl | hp
      · exact ⟨Nat.ne_of_gt l2, Nat.ne_of_gt l1⟩
      · exact I.ap p hp
end
section
variable {C : Cx} {n : Nat}
theorem IO.done {g : Heap} {L : Addr} {s : Shared} {m : Str → Option Value} {T : Led} {X : List Addr} {μ : Mem} {c x dx : Addr} {fs : List (Str × D)} (I : IO C g L s m T X μ c x dx fs) :
    ∃ T', News g L s.heap T' ∧ (∀ p ∈ T, p ∈ T') ∧ Rd C.B T' X (.ref x) (.inst c fs) := by
  obtain ⟨es, n', N, R⟩ := I.news
  have hX : ∀ a, (∀ p ∈ T, p.1 ≠ a) → a ∉ X := fun a h q => by
    obtain ⟨o, ho⟩ := I.O.xin _ q
    exact h _ ho rfl
  refine ⟨_, N, fun p hp => .tail _ (.tail _ hp), ?_⟩
  have st : Stp T X (keys μ) ((x, instObj c dx) :: (dx, dictOf es n') :: T) X (keys μ) := .more _ fun p hp => .tail _ (.tail _ hp)
  exact ⟨x, dx, _, es, rfl, .inr ⟨.head _, hX x fun p hp => (I.ap p hp).2⟩, .inr ⟨.tail _ (.head _), hX dx fun p hp => (I.ap p hp).1⟩, ⟨n', rfl⟩, RdF.lift (st.lift I.O.sub) _ _ R⟩
theorem cls_entry {c fI : Addr} {names : List Str} (hm : makesIn C.K c = true) (hi : findIn C.K (.ref c) "__init__" = some (some (.ref fI))) (hfn : isFn C.K (.ref fI) = true) (hc : ClsOk C.K c names)
    {fo : Obj} {name qual : Str} {params : Arguments} {body : List PySem.Stmt} {scope : Scope} {dV kV doc pm cdv ct : Value} {an : Option Addr}
    (hf : ∀ h, C.K.In h → h.get? fI = some fo) (hd : fo.data = .func (fnX name qual params body scope [] dV kV doc pm an cdv ct)) (hcd : ∀ h, C.K.In h → h.CodeRec cdv qual)
    (okc : allB (fun y : Str × NameKind => match y.2 with | .local => true | .globalImplicit => true | _ => false) scope.names = true)
    {self : Str} {bs : Addr → List Value → List (Str × Value)} {l : List (Str × Src)} (ok : initOk scope self l body = true) (hl1 : ∀ p ∈ l, p.1 ∈ names) (hl2 : l.length ≤ 20) (hself : scope.names.lookup self = some .local) (hdself : (self == ("__debug__" : Str)) = false)
    {ds : List D} {μ : Mem} {k : KE} (hloc : ∀ x vs, vs.length = ds.length → ∀ y ∈ bs x vs, scope.names.lookup y.1 = some .local) (hxs : ∀ x vs, vs.length = ds.length → (bs x vs).reverse.lookup self = some (.ref x))
    (hb : ∀ s x vs, C.K.In s.heap → vs.length = ds.length → BindsTo s (fnX name qual params body scope [] dV kV doc pm an cdv ct) ⟨.ref x :: vs, []⟩ (bs x vs))
    (hlist : C.mg (Str.ofString "list") = none ∧ C.mb (Str.ofString "list") = some (.type "list"))
    {ρ : Str → Option D} (hρ : ∀ x vs T X, Rds C.B T X vs ds → ∀ y d, ρ y = some d → ∃ v, (bs x vs).reverse.lookup y = some v ∧ Rd C.B T X v d)
    (v : vcI ρ l [] μ fun fs μ' => k (.inst c fs) μ')
    (hco : scope.isCoroutine = false) (hgen : scope.isGenerator = false) (hk : scope.kind = .function) : CallOk C (n + 1) c ds μ k := by
  intro A A₀ fenv outer h₀ L s m T X vs Q E F O r P
  refine call_cls O.F F.wd.k O.N hm hi hfn fun x dx h' F1 N1 lt lx => ?_
  have hvl : vs.length = ds.length := r.length
  have W : Wd C h' := F.wd.keeps F1.keep
  have hfr : (A.under (.builtin "type.__call__" ⟨.ref c :: vs, []⟩)).frames = A.frames := rfl
  have hdp : (A.under (.builtin "type.__call__" ⟨.ref c :: vs, []⟩)).depth = A.depth + 1 := rfl
  have hun : (A.under (.builtin "type.__call__" ⟨.ref c :: vs, []⟩)).units = A.units + 1 := rfl
  have hhd : (A.under (.builtin "type.__call__" ⟨.ref c :: vs, []⟩)).handled = A.handled := rfl
  generalize A.under (.builtin "type.__call__" ⟨.ref c :: vs, []⟩) = A1 at *
  have hD := F.hd
  have hU := F.hu
  refine callX_plain (s := { s with heap := h' }) F.bl F1 N1 F.wd.nl (hfr.trans F.hA) F.hf F.hk (hf _ W.k) hd (hcd _ W.k) (by (clear hU hun hvl hl2; lia)) (hb _ x vs W.k hvl) (hloc x vs hvl) (fun g L' h₁ Fg F' N' B' st hlt => ?_) (fun y hy q => ?_) hco hgen hk
  · have F2 : Fm C n (A1.deeper (envX qual scope L' fI cdv [])) A1 (envX qual scope L' fI cdv []) (fenv :: outer) g L' :=
      ⟨hhd.trans F.hh, by show A1.depth + 1 + 4 * n + 8 < _; (clear hU hun hvl hl2; lia), by show A1.units + 3 + 32 * n + 200 < _; (clear hD hdp hvl hl2; lia), Around.frames_deeper (hfr.trans F.hA), rfl, hk, B', F.wd.keeps fun b o e => st b o e⟩
    have NT : News g L' h₁ T := fun p hp => N' p (.tail _ (.tail _ hp))
    have I : IO C g L' { s with heap := h₁, toks := s.toks + (bs x vs).length } (fun y => (bs x vs).reverse.lookup y) T X μ c x dx [] := by
      refine ⟨⟨F', NT, O.M, O.sub, O.xin, fun b o e => st b o (O.st b o e)⟩, ⟨[], 0, fun p hp => ?_, ?_⟩, fun p hp => ⟨Nat.ne_of_lt (lt p hp), Nat.ne_of_lt (Nat.lt_trans (lt p hp) lx)⟩, Nat.ne_of_gt lx⟩
      · rcases List.mem_cons.mp hp with rfl | hp
        · exact N' _ (.head _)
        · rcases List.mem_cons.mp hp with rfl | hp
          · exact N' _ (.tail _ (.head _))
          · cases hp
      · rfl
    refine init_run F2 hc hself hdself hk rfl rfl rfl (fun y kd h => h) hlist (hxs x vs hvl) l body [] _ T X μ ok hl1 (by rw [List.length_nil]; lia) I (fun y d hy => hρ x vs T X r y d hy) v fun fs' h2 tk T' X' μ' I' st' hk' => ?_
    obtain ⟨T2, N2, hT2, R2⟩ := I'.done
    refine leaveK_ I'.O.F N2 fun Fh Nh => ⟨rfl, ?_⟩
    have O2 : Ok C h₀ L { s with heap := h2, toks := tk } m T2 X' μ' :=
      ⟨Fh, Nh, fun y hy => (I'.O.M y hy).step (.more T2 hT2) (fun a h => I'.O.sub a h) (fun h => h (List.mem_map_of_mem hy)) fun p hp _ => hT2 p hp, I'.O.sub, fun a ha => let ⟨o, h⟩ := I'.O.xin a ha; ⟨o, hT2 _ h⟩, O.st⟩
    exact P (.ref x) (.inst c fs') h2 tk T2 X' μ' O2 (st'.trans (.more T2 hT2) O.sub) R2 hk'
  · have := allB_of okc y hy
    rw [q] at this; cases this
end
section
variable {C : Cx} {Γ : Cfg} {n : Nat}
theorem call_entryC (G : Good C Γ n) {f : Addr} {fo : Obj} {name qual : Str} {params : Arguments} {body : List PySem.Stmt} {scope : Scope} {dV kV doc pm cdv ct : Value} {an : Option Addr}
    (hf : ∀ h, C.K.In h → h.get? f = some fo) (hd : fo.data = .func (fnX name qual params body scope [] dV kV doc pm an cdv ct)) (hcd : ∀ h, C.K.In h → h.CodeRec cdv qual)
    {x : Str} {ms : List MS} (hx : scope.names.lookup x = some .cell) (hcf : ∀ n, cellsFrom n scope.names [] = [(x, n)])
    (okc : allB (fun y : Str × NameKind => match y.2 with | .local => true | .globalImplicit => true | .cell => sb y.1 x | _ => false) scope.names = true) (okm : okSs Γ ⟨[x], scope⟩ ms body = true)
    {d : D} {μ : Mem} {k : KE} (hb : ∀ s v, C.K.In s.heap → BindsTo s (fnX name qual params body scope [] dV kV doc pm an cdv ct) ⟨[v], []⟩ [(x, v)]) (v : vcSs Γ ms [d] μ (retK k))
    (hco : scope.isCoroutine = false) (hgen : scope.isGenerator = false) (hk : scope.kind = .function) : CallOk C (n + 1) f [d] μ k := by
  intro A A₀ fenv outer h₀ L s m T X vs Q E F O r P
  obtain ⟨va, rfl, rv⟩ : ∃ va, vs = [va] ∧ Rd C.B T X va d := by
    obtain ⟨v, r', rfl, a, b⟩ := r
    cases b
    exact ⟨v, rfl, a⟩
  have W : Wd C s.heap := F.wd.keeps O.F.keep
  refine wpAny_call (callX_cells F.bl O.F O.N F.wd.nl F.hA F.hf F.hk (hf _ W.k) hd (hcd _ W.k) (by have := F.hd; lia) (hb s va W.k) (fun n' y hy => ?_) ?_ (fun g L' h₁ tk cells Fg F' N' X' B' st hlt => ?_) hco hgen hk)
  · rcases List.mem_cons.mp hy with rfl | hy
    · refine .inr ⟨hx, ?_⟩
      rw [hcf, List.lookup_cons, beq_self_eq_true]; rfl
    · cases hy
  · rw [hcf]; exact List.nodup_cons.mpr ⟨List.not_mem_nil, List.nodup_nil⟩
  · have hkx : (envOfC qual scope L' f cdv).kindOf x = some .cell := hx
    have el : bindL (envOfC qual scope L' f cdv).kindOf [(x, va)] (fun _ => none) = fun _ => none := by
      unfold bindL
      rw [hkx, if_neg (by decide)]; rfl
    have ec : bindC (envOfC qual scope L' f cdv).kindOf [(x, va)] (fun _ => none) x = some va := by
      unfold bindC
      rw [hkx, if_neg (by decide)]
      show (if x = x then some va else none) = _
      rw [if_pos rfl]
    rw [el] at F'
    rw [hcf] at X'
    obtain ⟨o, rfl, ho⟩ := X'.one
    rw [ec] at ho
    have N2 : News g L' h₁ ((L' + 1, o) :: T) := N'
    have hT : ∀ p ∈ T, p.1 ≠ L' + 1 := fun p hp => Nat.ne_of_lt (Nat.lt_succ_of_lt (hlt p hp))
    have hX : L' + 1 ∉ X := fun q => by
      obtain ⟨o', ho'⟩ := O.xin _ q
      exact hT _ ho' rfl
    have stp : Stp T X (keys μ) ((L' + 1, o) :: T) ((L' + 1) :: X) (keys μ) :=
      ⟨fun p hp _ => .tail _ hp, fun a ha => .tail _ ha, fun p hp hx => (List.mem_cons.mp hx).resolve_left (hT p hp), fun _ _ h => h, fun _ h => h⟩
    have O' : Ok C g L' { s with heap := h₁, toks := tk } (fun _ => none) ((L' + 1, o) :: T) ((L' + 1) :: X) μ := by
      refine ⟨F', N2, fun y hy => (O.M y hy).step stp O.sub (fun h => h (List.mem_map_of_mem hy)) fun p hp _ => .tail _ hp, fun a ha => .tail _ (O.sub a ha), fun a ha => ?_, fun b o e => st b o (O.st b o e)⟩
      rcases List.mem_cons.mp ha with rfl | ha
      · exact ⟨o, .head _⟩
      · obtain ⟨o', h⟩ := O.xin a ha; exact ⟨o', .tail _ h⟩
    have eC : (envOfC qual scope L' f cdv).cells = [(x, L' + 1)] := hcf (L' + 1)
    have F2 : Fm C n (A.deeper (envOfC qual scope L' f cdv)) A (envOfC qual scope L' f cdv) (fenv :: outer) g L' := F.call rfl hk B' st
    have hlk : (envOfC qual scope L' f cdv).cells.lookup x = some (L' + 1) := by
      rw [eC, List.lookup_cons, beq_self_eq_true]
    have onlyx : ∀ y, scope.names.lookup y = some .cell → y = x := fun y hy => by
      have := allB_of okc _ (lookup_mem hy)
      exact sb_eq this
    have V : EnvOk C L' (envOfC qual scope L' f cdv) ⟨[x], scope⟩ (fun _ => none) ((L' + 1, o) :: T) ((L' + 1) :: X) (keys μ) [d] := by
      refine ⟨hk, rfl, rfl, rfl, fun y hy => hy, fun i y d' hi hv hlo hdd => ?_, fun y hy => ?_⟩
      · cases i with
        | succ i => simp at hi
        | zero =>
          simp at hi hlo
          subst hi; subst hlo
          exact ⟨va, .cell (L' + 1) o hx hlk (.head _) (fun q => hX (O.sub _ q)) ho, Rd.lift (stp.lift O.sub) _ _ rv⟩
      · have := onlyx y hy
        subst this
        exact ⟨hx, _, hlk⟩
    have H : StS C n ⟨[x], scope⟩ (A.deeper (envOfC qual scope L' f cdv)) A (envOfC qual scope L' f cdv) (fenv :: outer) g L' (envOfC qual scope L' f cdv) { s with heap := h₁, toks := tk } (fun _ => none) ((L' + 1, o) :: T) ((L' + 1) :: X) μ [d] := by
      refine ⟨⟨F2, V, O'⟩, rfl, rfl, fun i j y hi hj => ?_, fun c hc => ?_, fun y y' c h h' => ?_⟩
      · cases i with
        | succ i => simp at hi
        | zero =>
          cases j with
          | succ j => simp at hj
          | zero => rfl
      · unfold cs at hc
        rw [eC] at hc
        simp at hc
        subst hc
        exact ⟨.head _, fun q => hX (O.sub _ q), o, some va, .head _, ho⟩
      · rw [eC, List.lookup_cons] at h h'
        cases q : y == x with
        | false => rw [q] at h; cases h
        | true =>
          cases q' : y' == x with
          | false => rw [q'] at h'; cases h'
          | true => rw [eq_of_beq q, eq_of_beq q']
    refine allSs G ms _ body okm _ _ _ _ _ _ _ _ _ _ _ _ _ _ _ _ H v fun oo m2 h2 tk2 T2 X2 μ2 loc2 H2 st2 hk2 => ?_
    have stF : Stp T X (keys μ) T2 X2 (keys μ2) := by
      have hcs : cs (envOfC qual scope L' f cdv) = [L' + 1] := by unfold cs; rw [eC]; rfl
      rw [hcs] at st2
      refine ⟨fun p hp hn => st2.keep p (.tail _ hp) fun q => ?_, fun a ha => st2.xs a (.tail _ ha), fun p hp h => ?_, fun p hp h => ?_, fun a ha => ?_⟩
      · rcases List.mem_cons.mp q with q | q
        · exact hT p hp q
        · exact hn q
      · exact (List.mem_cons.mp (st2.xnew p (.tail _ hp) h)).resolve_left (hT p hp)
      · exact (List.mem_cons.mp (st2.mnew p (.tail _ hp) (.tail _ h))).resolve_left (hT p hp)
      · exact (List.mem_cons.mp (st2.mks a (.tail _ ha))).resolve_left fun e => hX (e ▸ O.sub _ ha)
    have fin : ∀ v d', Rd C.B T2 X2 v d' → k d' μ2 → LeaveK h₀ L m g (fun r s' => match r with | .ok (.ret v) => Q v s' | .ok _ => False | .error e => E e s') v { s with heap := h2, toks := tk2 } := fun v d' r hkd =>
      leaveK_ H2.O.F H2.O.N fun Fh Nh => P v d' h2 tk2 T2 X2 μ2 ⟨Fh, Nh, H2.O.M, H2.O.sub, H2.O.xin, O.st⟩ stF r hkd
    cases oo with
    | next => exact fin .none .none to_none hk2
    | ret d' => exact fun v r => fin v d' r hk2
end
noncomputable def CX (w : World) (B : Heap) (mg mb : Str → Option Value) : Cx := ⟨pw, w, KK w.params, B, mg, mb⟩
theorem len0 {vs : List Value} (h : vs.length = 0) : vs = [] := List.eq_nil_of_length_eq_zero h
theorem lenS {vs : List Value} {n : Nat} (h : vs.length = n + 1) : ∃ a r, vs = a :: r ∧ r.length = n := by
  cases vs with
  | nil => cases h
  | cons a r => exact ⟨a, r, rfl, Nat.succ.inj h⟩
theorem len1 {vs : List Value} (h : vs.length = 1) : ∃ a, vs = [a] := by
  obtain ⟨a, r, rfl, h2⟩ := lenS h
  exact ⟨a, by rw [len0 h2]⟩
theorem len2 {vs : List Value} (h : vs.length = 2) : ∃ a b, vs = [a, b] := by
  obtain ⟨a, r, rfl, h2⟩ := lenS h
  obtain ⟨b, rfl⟩ := len1 h2
  exact ⟨a, b, rfl⟩
theorem len3 {vs : List Value} (h : vs.length = 3) : ∃ a b c, vs = [a, b, c] := by
  obtain ⟨a, r, rfl, h2⟩ := lenS h
  obtain ⟨b, c, rfl⟩ := len2 h2
  exact ⟨a, b, c, rfl⟩
theorem len4 {vs : List Value} (h : vs.length = 4) : ∃ a b c d, vs = [a, b, c, d] := by
  obtain ⟨a, r, rfl, h2⟩ := lenS h
  obtain ⟨b, c, d, rfl⟩ := len3 h2
  exact ⟨a, b, c, d, rfl⟩
section
variable {w : World} {B : Heap} {mg mb : Str → Option Value} {G GM : Nat → List D → Mem → KE → Prop} {n : Nat} (g : Good (CX w B mg mb) (Γ0 G GM) n) {ds : List D} {μ : Mem} {k : KE}
include g
theorem fe_line_start (hl : ds.length = 2) (v : vcSs (Γ0 G GM) ms_line_start (ds ++ List.replicate 1 .undef) μ (retK k)) : CallOk (CX w B mg mb) (n + 1) 29 ds μ k :=
  call_entry g (fo := o29_0) (qual := tS "line_start") (cdv := .ref 28) (fun h X => X _ _ (show (KK w.params).lookup 29 = some o29_0 by kernel_rfl)) rfl (fun h X => codeRec_of X (show codeIn (KK w.params) (.ref 28) (tS "line_start") = true by kernel_rfl))
    (ps := ps_line_start) (rest := rs_line_start) (show allB _ _ = true by kernel_rfl) (show allB _ _ = true by kernel_rfl) (show nodupB _ = true by kernel_rfl) ok_line_start_m hl
    (fun s vs _ h => by obtain ⟨a, b, rfl⟩ := len2 h; exact .of_eq (by kernel_rfl)) v (by kernel_rfl) (by kernel_rfl) (by kernel_rfl)
theorem fe_line_end (hl : ds.length = 2) (v : vcSs (Γ0 G GM) ms_line_end (ds ++ List.replicate 1 .undef) μ (retK k)) : CallOk (CX w B mg mb) (n + 1) 36 ds μ k :=
  call_entry g (fo := o36_0) (qual := tS "line_end") (cdv := .ref 35) (fun h X => X _ _ (show (KK w.params).lookup 36 = some o36_0 by kernel_rfl)) rfl (fun h X => codeRec_of X (show codeIn (KK w.params) (.ref 35) (tS "line_end") = true by kernel_rfl))
    (ps := ps_line_end) (rest := rs_line_end) (show allB _ _ = true by kernel_rfl) (show allB _ _ = true by kernel_rfl) (show nodupB _ = true by kernel_rfl) ok_line_end_m hl
    (fun s vs _ h => by obtain ⟨a, b, rfl⟩ := len2 h; exact .of_eq (by kernel_rfl)) v (by kernel_rfl) (by kernel_rfl) (by kernel_rfl)
theorem fe_next_start (hl : ds.length = 2) (v : vcSs (Γ0 G GM) ms_next_start (ds ++ List.replicate 1 .undef) μ (retK k)) : CallOk (CX w B mg mb) (n + 1) 43 ds μ k :=
  call_entry g (fo := o43_0) (qual := tS "next_start") (cdv := .ref 42) (fun h X => X _ _ (show (KK w.params).lookup 43 = some o43_0 by kernel_rfl)) rfl (fun h X => codeRec_of X (show codeIn (KK w.params) (.ref 42) (tS "next_start") = true by kernel_rfl))
    (ps := ps_next_start) (rest := rs_next_start) (show allB _ _ = true by kernel_rfl) (show allB _ _ = true by kernel_rfl) (show nodupB _ = true by kernel_rfl) ok_next_start_m hl
    (fun s vs _ h => by obtain ⟨a, b, rfl⟩ := len2 h; exact .of_eq (by kernel_rfl)) v (by kernel_rfl) (by kernel_rfl) (by kernel_rfl)
theorem fe_blanks_end (hl : ds.length = 2) (v : vcSs (Γ0 G GM) ms_blanks_end (ds ++ List.replicate 1 .undef) μ (retK k)) : CallOk (CX w B mg mb) (n + 1) 50 ds μ k :=
  call_entry g (fo := o50_0) (qual := tS "blanks_end") (cdv := .ref 49) (fun h X => X _ _ (show (KK w.params).lookup 50 = some o50_0 by kernel_rfl)) rfl (fun h X => codeRec_of X (show codeIn (KK w.params) (.ref 49) (tS "blanks_end") = true by kernel_rfl))
    (ps := ps_blanks_end) (rest := rs_blanks_end) (show allB _ _ = true by kernel_rfl) (show allB _ _ = true by kernel_rfl) (show nodupB _ = true by kernel_rfl) ok_blanks_end_m hl
    (fun s vs _ h => by obtain ⟨a, b, rfl⟩ := len2 h; exact .of_eq (by kernel_rfl)) v (by kernel_rfl) (by kernel_rfl) (by kernel_rfl)
theorem fe_blanks_begin (hl : ds.length = 2) (v : vcSs (Γ0 G GM) ms_blanks_begin (ds ++ List.replicate 1 .undef) μ (retK k)) : CallOk (CX w B mg mb) (n + 1) 57 ds μ k :=
  call_entry g (fo := o57_0) (qual := tS "blanks_begin") (cdv := .ref 56) (fun h X => X _ _ (show (KK w.params).lookup 57 = some o57_0 by kernel_rfl)) rfl (fun h X => codeRec_of X (show codeIn (KK w.params) (.ref 56) (tS "blanks_begin") = true by kernel_rfl))
    (ps := ps_blanks_begin) (rest := rs_blanks_begin) (show allB _ _ = true by kernel_rfl) (show allB _ _ = true by kernel_rfl) (show nodupB _ = true by kernel_rfl) ok_blanks_begin_m hl
    (fun s vs _ h => by obtain ⟨a, b, rfl⟩ := len2 h; exact .of_eq (by kernel_rfl)) v (by kernel_rfl) (by kernel_rfl) (by kernel_rfl)
theorem fe_is_line_begin (hl : ds.length = 2) (v : vcSs (Γ0 G GM) ms_is_line_begin (ds ++ List.replicate 0 .undef) μ (retK k)) : CallOk (CX w B mg mb) (n + 1) 64 ds μ k :=
  call_entry g (fo := o64_0) (qual := tS "is_line_begin") (cdv := .ref 63) (fun h X => X _ _ (show (KK w.params).lookup 64 = some o64_0 by kernel_rfl)) rfl (fun h X => codeRec_of X (show codeIn (KK w.params) (.ref 63) (tS "is_line_begin") = true by kernel_rfl))
    (ps := ps_is_line_begin) (rest := rs_is_line_begin) (show allB _ _ = true by kernel_rfl) (show allB _ _ = true by kernel_rfl) (show nodupB _ = true by kernel_rfl) ok_is_line_begin_m hl
    (fun s vs _ h => by obtain ⟨a, b, rfl⟩ := len2 h; exact .of_eq (by kernel_rfl)) v (by kernel_rfl) (by kernel_rfl) (by kernel_rfl)
theorem fe_is_line_end (hl : ds.length = 2) (v : vcSs (Γ0 G GM) ms_is_line_end (ds ++ List.replicate 0 .undef) μ (retK k)) : CallOk (CX w B mg mb) (n + 1) 71 ds μ k :=
  call_entry g (fo := o71_0) (qual := tS "is_line_end") (cdv := .ref 70) (fun h X => X _ _ (show (KK w.params).lookup 71 = some o71_0 by kernel_rfl)) rfl (fun h X => codeRec_of X (show codeIn (KK w.params) (.ref 70) (tS "is_line_end") = true by kernel_rfl))
    (ps := ps_is_line_end) (rest := rs_is_line_end) (show allB _ _ = true by kernel_rfl) (show allB _ _ = true by kernel_rfl) (show nodupB _ = true by kernel_rfl) ok_is_line_end_m hl
    (fun s vs _ h => by obtain ⟨a, b, rfl⟩ := len2 h; exact .of_eq (by kernel_rfl)) v (by kernel_rfl) (by kernel_rfl) (by kernel_rfl)
theorem fe_is_blank_line (hl : ds.length = 2) (v : vcSs (Γ0 G GM) ms_is_blank_line (ds ++ List.replicate 0 .undef) μ (retK k)) : CallOk (CX w B mg mb) (n + 1) 78 ds μ k :=
  call_entry g (fo := o78_0) (qual := tS "is_blank_line") (cdv := .ref 77) (fun h X => X _ _ (show (KK w.params).lookup 78 = some o78_0 by kernel_rfl)) rfl (fun h X => codeRec_of X (show codeIn (KK w.params) (.ref 77) (tS "is_blank_line") = true by kernel_rfl))
    (ps := ps_is_blank_line) (rest := rs_is_blank_line) (show allB _ _ = true by kernel_rfl) (show allB _ _ = true by kernel_rfl) (show nodupB _ = true by kernel_rfl) ok_is_blank_line_m hl
    (fun s vs _ h => by obtain ⟨a, b, rfl⟩ := len2 h; exact .of_eq (by kernel_rfl)) v (by kernel_rfl) (by kernel_rfl) (by kernel_rfl)
theorem fe_width_at (hl : ds.length = 3) (v : vcSs (Γ0 G GM) ms_width_at (ds ++ List.replicate 0 .undef) μ (retK k)) : CallOk (CX w B mg mb) (n + 1) 85 ds μ k :=
  call_entry g (fo := o85_0) (qual := tS "width_at") (cdv := .ref 84) (fun h X => X _ _ (show (KK w.params).lookup 85 = some o85_0 by kernel_rfl)) rfl (fun h X => codeRec_of X (show codeIn (KK w.params) (.ref 84) (tS "width_at") = true by kernel_rfl))
    (ps := ps_width_at) (rest := rs_width_at) (show allB _ _ = true by kernel_rfl) (show allB _ _ = true by kernel_rfl) (show nodupB _ = true by kernel_rfl) ok_width_at_m hl
    (fun s vs _ h => by obtain ⟨a, b, c, rfl⟩ := len3 h; exact .of_eq (by kernel_rfl)) v (by kernel_rfl) (by kernel_rfl) (by kernel_rfl)
theorem fe_column_of_codes (hl : ds.length = 3) (v : vcSs (Γ0 G GM) ms_column_of_codes (ds ++ List.replicate 1 .undef) μ (retK k)) : CallOk (CX w B mg mb) (n + 1) 92 ds μ k :=
  call_entry g (fo := o92_1) (qual := tS "column_of_codes") (cdv := .ref 91) (fun h X => X _ _ (show (KK w.params).lookup 92 = some o92_1 by kernel_rfl)) rfl (fun h X => codeRec_of X (show codeIn (KK w.params) (.ref 91) (tS "column_of_codes") = true by kernel_rfl))
    (ps := ps_column_of_codes) (rest := rs_column_of_codes) (show allB _ _ = true by kernel_rfl) (show allB _ _ = true by kernel_rfl) (show nodupB _ = true by kernel_rfl) ok_column_of_codes_m hl
    (fun s vs _ h => by obtain ⟨a, b, c, rfl⟩ := len3 h; exact .of_eq (by kernel_rfl)) v (by kernel_rfl) (by kernel_rfl) (by kernel_rfl)
theorem fe_column_at (hl : ds.length = 3) (v : vcSs (Γ0 G GM) ms_column_at (ds ++ List.replicate 2 .undef) μ (retK k)) : CallOk (CX w B mg mb) (n + 1) 99 ds μ k :=
  call_entry g (fo := o99_1) (qual := tS "column_at") (cdv := .ref 98) (fun h X => X _ _ (show (KK w.params).lookup 99 = some o99_1 by kernel_rfl)) rfl (fun h X => codeRec_of X (show codeIn (KK w.params) (.ref 98) (tS "column_at") = true by kernel_rfl))
    (ps := ps_column_at) (rest := rs_column_at) (show allB _ _ = true by kernel_rfl) (show allB _ _ = true by kernel_rfl) (show nodupB _ = true by kernel_rfl) ok_column_at_m hl
    (fun s vs _ h => by obtain ⟨a, b, c, rfl⟩ := len3 h; exact .of_eq (by kernel_rfl)) v (by kernel_rfl) (by kernel_rfl) (by kernel_rfl)
theorem fe_horizontal_edit (hl : ds.length = 3) (v : vcSs (Γ0 G GM) ms_horizontal_edit (ds ++ List.replicate 0 .undef) μ (retK k)) : CallOk (CX w B mg mb) (n + 1) 106 ds μ k :=
  call_entry g (fo := o106_1) (qual := tS "horizontal_edit") (cdv := .ref 105) (fun h X => X _ _ (show (KK w.params).lookup 106 = some o106_1 by kernel_rfl)) rfl (fun h X => codeRec_of X (show codeIn (KK w.params) (.ref 105) (tS "horizontal_edit") = true by kernel_rfl))
    (ps := ps_horizontal_edit) (rest := rs_horizontal_edit) (show allB _ _ = true by kernel_rfl) (show allB _ _ = true by kernel_rfl) (show nodupB _ = true by kernel_rfl) ok_horizontal_edit_m hl
    (fun s vs _ h => by obtain ⟨a, b, c, rfl⟩ := len3 h; exact .of_eq (by kernel_rfl)) v (by kernel_rfl) (by kernel_rfl) (by kernel_rfl)
theorem fe_just_edit (hl : ds.length = 3) (v : vcSs (Γ0 G GM) ms_just_edit (ds ++ List.replicate 0 .undef) μ (retK k)) : CallOk (CX w B mg mb) (n + 1) 113 ds μ k :=
  call_entry g (fo := o113_1) (qual := tS "just_edit") (cdv := .ref 112) (fun h X => X _ _ (show (KK w.params).lookup 113 = some o113_1 by kernel_rfl)) rfl (fun h X => codeRec_of X (show codeIn (KK w.params) (.ref 112) (tS "just_edit") = true by kernel_rfl))
    (ps := ps_just_edit) (rest := rs_just_edit) (show allB _ _ = true by kernel_rfl) (show allB _ _ = true by kernel_rfl) (show nodupB _ = true by kernel_rfl) ok_just_edit_m hl
    (fun s vs _ h => by obtain ⟨a, b, c, rfl⟩ := len3 h; exact .of_eq (by kernel_rfl)) v (by kernel_rfl) (by kernel_rfl) (by kernel_rfl)
theorem fe_wants_space (hl : ds.length = 4) (v : vcSs (Γ0 G GM) ms_wants_space (ds ++ List.replicate 0 .undef) μ (retK k)) : CallOk (CX w B mg mb) (n + 1) 120 ds μ k :=
  call_entry g (fo := o120_1) (qual := tS "wants_space") (cdv := .ref 119) (fun h X => X _ _ (show (KK w.params).lookup 120 = some o120_1 by kernel_rfl)) rfl (fun h X => codeRec_of X (show codeIn (KK w.params) (.ref 119) (tS "wants_space") = true by kernel_rfl))
    (ps := ps_wants_space) (rest := rs_wants_space) (show allB _ _ = true by kernel_rfl) (show allB _ _ = true by kernel_rfl) (show nodupB _ = true by kernel_rfl) ok_wants_space_m hl
    (fun s vs _ h => by obtain ⟨a, b, c, d, rfl⟩ := len4 h; exact .of_eq (by kernel_rfl)) v (by kernel_rfl) (by kernel_rfl) (by kernel_rfl)
theorem fe_fixup_edit (hl : ds.length = 3) (v : vcSs (Γ0 G GM) ms_fixup_edit (ds ++ List.replicate 2 .undef) μ (retK k)) : CallOk (CX w B mg mb) (n + 1) 127 ds μ k :=
  call_entry g (fo := o127_1) (qual := tS "fixup_edit") (cdv := .ref 126) (fun h X => X _ _ (show (KK w.params).lookup 127 = some o127_1 by kernel_rfl)) rfl (fun h X => codeRec_of X (show codeIn (KK w.params) (.ref 126) (tS "fixup_edit") = true by kernel_rfl))
    (ps := ps_fixup_edit) (rest := rs_fixup_edit) (show allB _ _ = true by kernel_rfl) (show allB _ _ = true by kernel_rfl) (show nodupB _ = true by kernel_rfl) ok_fixup_edit_m hl
    (fun s vs _ h => by obtain ⟨a, b, c, rfl⟩ := len3 h; exact .of_eq (by kernel_rfl)) v (by kernel_rfl) (by kernel_rfl) (by kernel_rfl)
theorem fe_join_edit (hl : ds.length = 3) (v : vcSs (Γ0 G GM) ms_join_edit (ds ++ List.replicate 4 .undef) μ (retK k)) : CallOk (CX w B mg mb) (n + 1) 134 ds μ k :=
  call_entry g (fo := o134_1) (qual := tS "join_edit") (cdv := .ref 133) (fun h X => X _ _ (show (KK w.params).lookup 134 = some o134_1 by kernel_rfl)) rfl (fun h X => codeRec_of X (show codeIn (KK w.params) (.ref 133) (tS "join_edit") = true by kernel_rfl))
    (ps := ps_join_edit) (rest := rs_join_edit) (show allB _ _ = true by kernel_rfl) (show allB _ _ = true by kernel_rfl) (show nodupB _ = true by kernel_rfl) ok_join_edit_m hl
    (fun s vs _ h => by obtain ⟨a, b, c, rfl⟩ := len3 h; exact .of_eq (by kernel_rfl)) v (by kernel_rfl) (by kernel_rfl) (by kernel_rfl)
theorem fe_blank_run (hl : ds.length = 2) (v : vcSs (Γ0 G GM) ms_blank_run (ds ++ List.replicate 1 .undef) μ (retK k)) : CallOk (CX w B mg mb) (n + 1) 141 ds μ k :=
  call_entry g (fo := o141_1) (qual := tS "blank_run") (cdv := .ref 140) (fun h X => X _ _ (show (KK w.params).lookup 141 = some o141_1 by kernel_rfl)) rfl (fun h X => codeRec_of X (show codeIn (KK w.params) (.ref 140) (tS "blank_run") = true by kernel_rfl))
    (ps := ps_blank_run) (rest := rs_blank_run) (show allB _ _ = true by kernel_rfl) (show allB _ _ = true by kernel_rfl) (show nodupB _ = true by kernel_rfl) ok_blank_run_m hl
    (fun s vs _ h => by obtain ⟨a, b, rfl⟩ := len2 h; exact .of_eq (by kernel_rfl)) v (by kernel_rfl) (by kernel_rfl) (by kernel_rfl)
theorem fe_behind_blanks (hl : ds.length = 2) (v : vcSs (Γ0 G GM) ms_behind_blanks (ds ++ List.replicate 1 .undef) μ (retK k)) : CallOk (CX w B mg mb) (n + 1) 148 ds μ k :=
  call_entry g (fo := o148_1) (qual := tS "behind_blanks") (cdv := .ref 147) (fun h X => X _ _ (show (KK w.params).lookup 148 = some o148_1 by kernel_rfl)) rfl (fun h X => codeRec_of X (show codeIn (KK w.params) (.ref 147) (tS "behind_blanks") = true by kernel_rfl))
    (ps := ps_behind_blanks) (rest := rs_behind_blanks) (show allB _ _ = true by kernel_rfl) (show allB _ _ = true by kernel_rfl) (show nodupB _ = true by kernel_rfl) ok_behind_blanks_m hl
    (fun s vs _ h => by obtain ⟨a, b, rfl⟩ := len2 h; exact .of_eq (by kernel_rfl)) v (by kernel_rfl) (by kernel_rfl) (by kernel_rfl)
theorem fe_line_behind (hl : ds.length = 2) (v : vcSs (Γ0 G GM) ms_line_behind (ds ++ List.replicate 1 .undef) μ (retK k)) : CallOk (CX w B mg mb) (n + 1) 155 ds μ k :=
  call_entry g (fo := o155_1) (qual := tS "line_behind") (cdv := .ref 154) (fun h X => X _ _ (show (KK w.params).lookup 155 = some o155_1 by kernel_rfl)) rfl (fun h X => codeRec_of X (show codeIn (KK w.params) (.ref 154) (tS "line_behind") = true by kernel_rfl))
    (ps := ps_line_behind) (rest := rs_line_behind) (show allB _ _ = true by kernel_rfl) (show allB _ _ = true by kernel_rfl) (show nodupB _ = true by kernel_rfl) ok_line_behind_m hl
    (fun s vs _ h => by obtain ⟨a, b, rfl⟩ := len2 h; exact .of_eq (by kernel_rfl)) v (by kernel_rfl) (by kernel_rfl) (by kernel_rfl)
theorem fe_blank_lines_edits (hl : ds.length = 2) (v : vcSs (Γ0 G GM) ms_blank_lines_edits (ds ++ List.replicate 4 .undef) μ (retK k)) : CallOk (CX w B mg mb) (n + 1) 160 ds μ k :=
  call_entry g (fo := o160_1) (qual := tS "blank_lines_edits") (cdv := .ref 159) (fun h X => X _ _ (show (KK w.params).lookup 160 = some o160_1 by kernel_rfl)) rfl (fun h X => codeRec_of X (show codeIn (KK w.params) (.ref 159) (tS "blank_lines_edits") = true by kernel_rfl))
    (ps := ps_blank_lines_edits) (rest := rs_blank_lines_edits) (show allB _ _ = true by kernel_rfl) (show allB _ _ = true by kernel_rfl) (show nodupB _ = true by kernel_rfl) ok_blank_lines_edits_m hl
    (fun s vs _ h => by obtain ⟨a, b, rfl⟩ := len2 h; exact .of_eq (by kernel_rfl)) v (by kernel_rfl) (by kernel_rfl) (by kernel_rfl)
theorem fe_trailing_edits (hl : ds.length = 3) (v : vcSs (Γ0 G GM) ms_trailing_edits (ds ++ List.replicate 3 .undef) μ (retK k)) : CallOk (CX w B mg mb) (n + 1) 167 ds μ k :=
  call_entry g (fo := o167_2) (qual := tS "trailing_edits") (cdv := .ref 166) (fun h X => X _ _ (show (KK w.params).lookup 167 = some o167_2 by kernel_rfl)) rfl (fun h X => codeRec_of X (show codeIn (KK w.params) (.ref 166) (tS "trailing_edits") = true by kernel_rfl))
    (ps := ps_trailing_edits) (rest := rs_trailing_edits) (show allB _ _ = true by kernel_rfl) (show allB _ _ = true by kernel_rfl) (show nodupB _ = true by kernel_rfl) ok_trailing_edits_m hl
    (fun s vs _ h => by obtain ⟨a, b, c, rfl⟩ := len3 h; exact .of_eq (by kernel_rfl)) v (by kernel_rfl) (by kernel_rfl) (by kernel_rfl)
theorem fe_untabified (hl : ds.length = 3) (v : vcSs (Γ0 G GM) ms_untabified (ds ++ List.replicate 1 .undef) μ (retK k)) : CallOk (CX w B mg mb) (n + 1) 174 ds μ k :=
  call_entry g (fo := o174_2) (qual := tS "untabified") (cdv := .ref 173) (fun h X => X _ _ (show (KK w.params).lookup 174 = some o174_2 by kernel_rfl)) rfl (fun h X => codeRec_of X (show codeIn (KK w.params) (.ref 173) (tS "untabified") = true by kernel_rfl))
    (ps := ps_untabified) (rest := rs_untabified) (show allB _ _ = true by kernel_rfl) (show allB _ _ = true by kernel_rfl) (show nodupB _ = true by kernel_rfl) ok_untabified_m hl
    (fun s vs _ h => by obtain ⟨a, b, c, rfl⟩ := len3 h; exact .of_eq (by kernel_rfl)) v (by kernel_rfl) (by kernel_rfl) (by kernel_rfl)
theorem fe_backward_edit (hl : ds.length = 3) (v : vcSs (Γ0 G GM) ms_backward_edit (ds ++ List.replicate 0 .undef) μ (retK k)) : CallOk (CX w B mg mb) (n + 1) 181 ds μ k :=
  call_entry g (fo := o181_2) (qual := tS "backward_edit") (cdv := .ref 180) (fun h X => X _ _ (show (KK w.params).lookup 181 = some o181_2 by kernel_rfl)) rfl (fun h X => codeRec_of X (show codeIn (KK w.params) (.ref 180) (tS "backward_edit") = true by kernel_rfl))
    (ps := ps_backward_edit) (rest := rs_backward_edit) (show allB _ _ = true by kernel_rfl) (show allB _ _ = true by kernel_rfl) (show nodupB _ = true by kernel_rfl) ok_backward_edit_m hl
    (fun s vs _ h => by obtain ⟨a, b, c, rfl⟩ := len3 h; exact .of_eq (by kernel_rfl)) v (by kernel_rfl) (by kernel_rfl) (by kernel_rfl)
theorem fe_zap_end (hl : ds.length = 4) (v : vcSs (Γ0 G GM) ms_zap_end (ds ++ List.replicate 1 .undef) μ (retK k)) : CallOk (CX w B mg mb) (n + 1) 188 ds μ k :=
  call_entry g (fo := o188_2) (qual := tS "zap_end") (cdv := .ref 187) (fun h X => X _ _ (show (KK w.params).lookup 188 = some o188_2 by kernel_rfl)) rfl (fun h X => codeRec_of X (show codeIn (KK w.params) (.ref 187) (tS "zap_end") = true by kernel_rfl))
    (ps := ps_zap_end) (rest := rs_zap_end) (show allB _ _ = true by kernel_rfl) (show allB _ _ = true by kernel_rfl) (show nodupB _ = true by kernel_rfl) ok_zap_end_m hl
    (fun s vs _ h => by obtain ⟨a, b, c, d, rfl⟩ := len4 h; exact .of_eq (by kernel_rfl)) v (by kernel_rfl) (by kernel_rfl) (by kernel_rfl)
theorem fe_read_syntax (hl : ds.length = 1) (v : vcSs (Γ0 G GM) ms_read_syntax (ds ++ List.replicate 3 .undef) μ (retK k)) : CallOk (CX w B mg mb) (n + 1) 267 ds μ k :=
  call_entry g (fo := o267_4) (qual := tS "read_syntax") (cdv := .ref 266) (fun h X => X _ _ (show (KK w.params).lookup 267 = some o267_4 by kernel_rfl)) rfl (fun h X => codeRec_of X (show codeIn (KK w.params) (.ref 266) (tS "read_syntax") = true by kernel_rfl))
    (ps := ps_read_syntax) (rest := rs_read_syntax) (show allB _ _ = true by kernel_rfl) (show allB _ _ = true by kernel_rfl) (show nodupB _ = true by kernel_rfl) ok_read_syntax_m hl
    (fun s vs _ h => by obtain ⟨a, rfl⟩ := len1 h; exact .of_eq (by kernel_rfl)) v (by kernel_rfl) (by kernel_rfl) (by kernel_rfl)
theorem fe_letters (hl : ds.length = 0) (v : vcSs (Γ0 G GM) ms_letters (ds ++ List.replicate 0 .undef) μ (retK k)) : CallOk (CX w B mg mb) (n + 1) 345 ds μ k :=
  call_entry g (fo := o345_6) (qual := tS "letters") (cdv := .ref 344) (fun h X => X _ _ (show (KK w.params).lookup 345 = some o345_6 by kernel_rfl)) rfl (fun h X => codeRec_of X (show codeIn (KK w.params) (.ref 344) (tS "letters") = true by kernel_rfl))
    (ps := ps_letters) (rest := rs_letters) (show allB _ _ = true by kernel_rfl) (show allB _ _ = true by kernel_rfl) (show nodupB _ = true by kernel_rfl) ok_letters_m hl
    (fun s vs _ h => by obtain rfl := len0 h; exact .of_eq (by kernel_rfl)) v (by kernel_rfl) (by kernel_rfl) (by kernel_rfl)
theorem fe_standard_table (hl : ds.length = 0) (v : vcSs (Γ0 G GM) ms_standard_table (ds ++ List.replicate 3 .undef) μ (retK k)) : CallOk (CX w B mg mb) (n + 1) 352 ds μ k :=
  call_entry g (fo := o352_6) (qual := tS "standard_table") (cdv := .ref 351) (fun h X => X _ _ (show (KK w.params).lookup 352 = some o352_6 by kernel_rfl)) rfl (fun h X => codeRec_of X (show codeIn (KK w.params) (.ref 351) (tS "standard_table") = true by kernel_rfl))
    (ps := ps_standard_table) (rest := rs_standard_table) (show allB _ _ = true by kernel_rfl) (show allB _ _ = true by kernel_rfl) (show nodupB _ = true by kernel_rfl) ok_standard_table_m hl
    (fun s vs _ h => by obtain rfl := len0 h; exact .of_eq (by kernel_rfl)) v (by kernel_rfl) (by kernel_rfl) (by kernel_rfl)
theorem fe_law_draw (hl : ds.length = 2) (v : vcSs (Γ0 G GM) ms_law_draw (ds ++ List.replicate 1 .undef) μ (retK k)) : CallOk (CX w B mg mb) (n + 1) 402 ds μ k :=
  call_entry g (fo := o402_7) (qual := tS "_law_draw") (cdv := .ref 401) (fun h X => X _ _ (show (KK w.params).lookup 402 = some o402_7 by kernel_rfl)) rfl (fun h X => codeRec_of X (show codeIn (KK w.params) (.ref 401) (tS "_law_draw") = true by kernel_rfl))
    (ps := ps_law_draw) (rest := rs_law_draw) (show allB _ _ = true by kernel_rfl) (show allB _ _ = true by kernel_rfl) (show nodupB _ = true by kernel_rfl) ok_law_draw_m hl
    (fun s vs _ h => by obtain ⟨a, b, rfl⟩ := len2 h; exact .of_eq (by kernel_rfl)) v (by kernel_rfl) (by kernel_rfl) (by kernel_rfl)
theorem fe_law_deck_of (hl : ds.length = 1) (v : vcSs (Γ0 G GM) ms_law_deck_of (ds ++ List.replicate 2 .undef) μ (retK k)) : CallOk (CX w B mg mb) (n + 1) 407 ds μ k :=
  call_entry g (fo := o407_7) (qual := tS "_law_deck_of") (cdv := .ref 406) (fun h X => X _ _ (show (KK w.params).lookup 407 = some o407_7 by kernel_rfl)) rfl (fun h X => codeRec_of X (show codeIn (KK w.params) (.ref 406) (tS "_law_deck_of") = true by kernel_rfl))
    (ps := ps_law_deck_of) (rest := rs_law_deck_of) (show allB _ _ = true by kernel_rfl) (show allB _ _ = true by kernel_rfl) (show nodupB _ = true by kernel_rfl) ok_law_deck_of_m hl
    (fun s vs _ h => by obtain ⟨a, rfl⟩ := len1 h; exact .of_eq (by kernel_rfl)) v (by kernel_rfl) (by kernel_rfl) (by kernel_rfl)
theorem fe_law_one (hl : ds.length = 2) (v : vcSs (Γ0 G GM) ms_law_one (ds ++ List.replicate 0 .undef) μ (retK k)) : CallOk (CX w B mg mb) (n + 1) 414 ds μ k :=
  call_entry g (fo := o414_7) (qual := tS "_law_one") (cdv := .ref 413) (fun h X => X _ _ (show (KK w.params).lookup 414 = some o414_7 by kernel_rfl)) rfl (fun h X => codeRec_of X (show codeIn (KK w.params) (.ref 413) (tS "_law_one") = true by kernel_rfl))
    (ps := ps_law_one) (rest := rs_law_one) (show allB _ _ = true by kernel_rfl) (show allB _ _ = true by kernel_rfl) (show nodupB _ = true by kernel_rfl) ok_law_one_m hl
    (fun s vs _ h => by obtain ⟨a, b, rfl⟩ := len2 h; exact .of_eq (by kernel_rfl)) v (by kernel_rfl) (by kernel_rfl) (by kernel_rfl)
theorem fe_law_done (hl : ds.length = 3) (v : vcSs (Γ0 G GM) ms_law_done (ds ++ List.replicate 3 .undef) μ (retK k)) : CallOk (CX w B mg mb) (n + 1) 424 ds μ k :=
  call_entry g (fo := o424_7) (qual := tS "_law_done") (cdv := .ref 423) (fun h X => X _ _ (show (KK w.params).lookup 424 = some o424_7 by kernel_rfl)) rfl (fun h X => codeRec_of X (show codeIn (KK w.params) (.ref 423) (tS "_law_done") = true by kernel_rfl))
    (ps := ps_law_done) (rest := rs_law_done) (show allB _ _ = true by kernel_rfl) (show allB _ _ = true by kernel_rfl) (show nodupB _ = true by kernel_rfl) ok_law_done_m hl
    (fun s vs _ h => by obtain ⟨a, b, c, rfl⟩ := len3 h; exact .of_eq (by kernel_rfl)) v (by kernel_rfl) (by kernel_rfl) (by kernel_rfl)
theorem fe_law_blank (hl : ds.length = 1) (v : vcSs (Γ0 G GM) ms_law_blank (ds ++ List.replicate 0 .undef) μ (retK k)) : CallOk (CX w B mg mb) (n + 1) 431 ds μ k :=
  call_entry g (fo := o431_7) (qual := tS "_law_blank") (cdv := .ref 430) (fun h X => X _ _ (show (KK w.params).lookup 431 = some o431_7 by kernel_rfl)) rfl (fun h X => codeRec_of X (show codeIn (KK w.params) (.ref 430) (tS "_law_blank") = true by kernel_rfl))
    (ps := ps_law_blank) (rest := rs_law_blank) (show allB _ _ = true by kernel_rfl) (show allB _ _ = true by kernel_rfl) (show nodupB _ = true by kernel_rfl) ok_law_blank_m hl
    (fun s vs _ h => by obtain ⟨a, rfl⟩ := len1 h; exact .of_eq (by kernel_rfl)) v (by kernel_rfl) (by kernel_rfl) (by kernel_rfl)
theorem fe_law_without_blanks (hl : ds.length = 2) (v : vcSs (Γ0 G GM) ms_law_without_blanks (ds ++ List.replicate 7 .undef) μ (retK k)) : CallOk (CX w B mg mb) (n + 1) 436 ds μ k :=
  call_entry g (fo := o436_7) (qual := tS "_law_without_blanks") (cdv := .ref 435) (fun h X => X _ _ (show (KK w.params).lookup 436 = some o436_7 by kernel_rfl)) rfl (fun h X => codeRec_of X (show codeIn (KK w.params) (.ref 435) (tS "_law_without_blanks") = true by kernel_rfl))
    (ps := ps_law_without_blanks) (rest := rs_law_without_blanks) (show allB _ _ = true by kernel_rfl) (show allB _ _ = true by kernel_rfl) (show nodupB _ = true by kernel_rfl) ok_law_without_blanks_m hl
    (fun s vs _ h => by obtain ⟨a, b, rfl⟩ := len2 h; exact .of_eq (by kernel_rfl)) v (by kernel_rfl) (by kernel_rfl) (by kernel_rfl)
theorem fe_law_joined (hl : ds.length = 2) (v : vcSs (Γ0 G GM) ms_law_joined (ds ++ List.replicate 5 .undef) μ (retK k)) : CallOk (CX w B mg mb) (n + 1) 443 ds μ k :=
  call_entry g (fo := o443_7) (qual := tS "_law_joined") (cdv := .ref 442) (fun h X => X _ _ (show (KK w.params).lookup 443 = some o443_7 by kernel_rfl)) rfl (fun h X => codeRec_of X (show codeIn (KK w.params) (.ref 442) (tS "_law_joined") = true by kernel_rfl))
    (ps := ps_law_joined) (rest := rs_law_joined) (show allB _ _ = true by kernel_rfl) (show allB _ _ = true by kernel_rfl) (show nodupB _ = true by kernel_rfl) ok_law_joined_m hl
    (fun s vs _ h => by obtain ⟨a, b, rfl⟩ := len2 h; exact .of_eq (by kernel_rfl)) v (by kernel_rfl) (by kernel_rfl) (by kernel_rfl)
theorem fe_law_around (hl : ds.length = 2) (v : vcSs (Γ0 G GM) ms_law_around (ds ++ List.replicate 0 .undef) μ (retK k)) : CallOk (CX w B mg mb) (n + 1) 450 ds μ k :=
  call_entry g (fo := o450_7) (qual := tS "_law_around") (cdv := .ref 449) (fun h X => X _ _ (show (KK w.params).lookup 450 = some o450_7 by kernel_rfl)) rfl (fun h X => codeRec_of X (show codeIn (KK w.params) (.ref 449) (tS "_law_around") = true by kernel_rfl))
    (ps := ps_law_around) (rest := rs_law_around) (show allB _ _ = true by kernel_rfl) (show allB _ _ = true by kernel_rfl) (show nodupB _ = true by kernel_rfl) ok_law_around_m hl
    (fun s vs _ h => by obtain ⟨a, b, rfl⟩ := len2 h; exact .of_eq (by kernel_rfl)) v (by kernel_rfl) (by kernel_rfl) (by kernel_rfl)
theorem fe_TextRow_begin (hl : ds.length = 1) (v : vcSs (Γ0 G GM) ms_TextRow_begin (ds ++ List.replicate 0 .undef) μ (retK k)) : CallOk (CX w B mg mb) (n + 1) 374 ds μ k :=
  call_entry g (fo := o374_6) (qual := tS "TextRow.begin") (cdv := .ref 373) (fun h X => X _ _ (show (KK w.params).lookup 374 = some o374_6 by kernel_rfl)) rfl (fun h X => codeRec_of X (show codeIn (KK w.params) (.ref 373) (tS "TextRow.begin") = true by kernel_rfl))
    (ps := ps_TextRow_begin) (rest := rs_TextRow_begin) (show allB _ _ = true by kernel_rfl) (show allB _ _ = true by kernel_rfl) (show nodupB _ = true by kernel_rfl) ok_TextRow_begin_m hl
    (fun s vs _ h => by obtain ⟨a, rfl⟩ := len1 h; exact .of_eq (by kernel_rfl)) v (by kernel_rfl) (by kernel_rfl) (by kernel_rfl)
theorem fe_TextRow_end (hl : ds.length = 1) (v : vcSs (Γ0 G GM) ms_TextRow_end (ds ++ List.replicate 0 .undef) μ (retK k)) : CallOk (CX w B mg mb) (n + 1) 381 ds μ k :=
  call_entry g (fo := o381_6) (qual := tS "TextRow.end") (cdv := .ref 380) (fun h X => X _ _ (show (KK w.params).lookup 381 = some o381_6 by kernel_rfl)) rfl (fun h X => codeRec_of X (show codeIn (KK w.params) (.ref 380) (tS "TextRow.end") = true by kernel_rfl))
    (ps := ps_TextRow_end) (rest := rs_TextRow_end) (show allB _ _ = true by kernel_rfl) (show allB _ _ = true by kernel_rfl) (show nodupB _ = true by kernel_rfl) ok_TextRow_end_m hl
    (fun s vs _ h => by obtain ⟨a, rfl⟩ := len1 h; exact .of_eq (by kernel_rfl)) v (by kernel_rfl) (by kernel_rfl) (by kernel_rfl)
theorem fe_TextRow_code_at (hl : ds.length = 2) (v : vcSs (Γ0 G GM) ms_TextRow_code_at (ds ++ List.replicate 0 .undef) μ (retK k)) : CallOk (CX w B mg mb) (n + 1) 388 ds μ k :=
  call_entry g (fo := o388_6) (qual := tS "TextRow.code_at") (cdv := .ref 387) (fun h X => X _ _ (show (KK w.params).lookup 388 = some o388_6 by kernel_rfl)) rfl (fun h X => codeRec_of X (show codeIn (KK w.params) (.ref 387) (tS "TextRow.code_at") = true by kernel_rfl))
    (ps := ps_TextRow_code_at) (rest := rs_TextRow_code_at) (show allB _ _ = true by kernel_rfl) (show allB _ _ = true by kernel_rfl) (show nodupB _ = true by kernel_rfl) ok_TextRow_code_at_m hl
    (fun s vs _ h => by obtain ⟨a, b, rfl⟩ := len2 h; exact .of_eq (by kernel_rfl)) v (by kernel_rfl) (by kernel_rfl) (by kernel_rfl)
theorem fe_SyntaxTable_kind_of (hl : ds.length = 2) (v : vcSs (Γ0 G GM) ms_SyntaxTable_kind_of (ds ++ List.replicate 0 .undef) μ (retK k)) : CallOk (CX w B mg mb) (n + 1) 324 ds μ k :=
  call_entry g (fo := o324_5) (qual := tS "SyntaxTable.kind_of") (cdv := .ref 323) (fun h X => X _ _ (show (KK w.params).lookup 324 = some o324_5 by kernel_rfl)) rfl (fun h X => codeRec_of X (show codeIn (KK w.params) (.ref 323) (tS "SyntaxTable.kind_of") = true by kernel_rfl))
    (ps := ps_SyntaxTable_kind_of) (rest := rs_SyntaxTable_kind_of) (show allB _ _ = true by kernel_rfl) (show allB _ _ = true by kernel_rfl) (show nodupB _ = true by kernel_rfl) ok_SyntaxTable_kind_of_m hl
    (fun s vs _ h => by obtain ⟨a, b, rfl⟩ := len2 h; exact .of_eq (by kernel_rfl)) v (by kernel_rfl) (by kernel_rfl) (by kernel_rfl)
theorem fe_SyntaxTable_own (hl : ds.length = 2) (v : vcSs (Γ0 G GM) ms_SyntaxTable_own (ds ++ List.replicate 1 .undef) μ (retK k)) : CallOk (CX w B mg mb) (n + 1) 310 ds μ k :=
  call_entry g (fo := o310_5) (qual := tS "SyntaxTable.own") (cdv := .ref 309) (fun h X => X _ _ (show (KK w.params).lookup 310 = some o310_5 by kernel_rfl)) rfl (fun h X => codeRec_of X (show codeIn (KK w.params) (.ref 309) (tS "SyntaxTable.own") = true by kernel_rfl))
    (ps := ps_SyntaxTable_own) (rest := rs_SyntaxTable_own) (show allB _ _ = true by kernel_rfl) (show allB _ _ = true by kernel_rfl) (show nodupB _ = true by kernel_rfl) ok_SyntaxTable_own_m hl
    (fun s vs _ h => by obtain ⟨a, b, rfl⟩ := len2 h; exact .of_eq (by kernel_rfl)) v (by kernel_rfl) (by kernel_rfl) (by kernel_rfl)
theorem fe_SyntaxTable_at (hl : ds.length = 2) (v : vcSs (Γ0 G GM) ms_SyntaxTable_at (ds ++ List.replicate 2 .undef) μ (retK k)) : CallOk (CX w B mg mb) (n + 1) 317 ds μ k :=
  call_entry g (fo := o317_5) (qual := tS "SyntaxTable.at") (cdv := .ref 316) (fun h X => X _ _ (show (KK w.params).lookup 317 = some o317_5 by kernel_rfl)) rfl (fun h X => codeRec_of X (show codeIn (KK w.params) (.ref 316) (tS "SyntaxTable.at") = true by kernel_rfl))
    (ps := ps_SyntaxTable_at) (rest := rs_SyntaxTable_at) (show allB _ _ = true by kernel_rfl) (show allB _ _ = true by kernel_rfl) (show nodupB _ = true by kernel_rfl) ok_SyntaxTable_at_m hl
    (fun s vs _ h => by obtain ⟨a, b, rfl⟩ := len2 h; exact .of_eq (by kernel_rfl)) v (by kernel_rfl) (by kernel_rfl) (by kernel_rfl)
theorem fe_SyntaxTable_modify_all (hl : ds.length = 3) (v : vcSs (Γ0 G GM) ms_SyntaxTable_modify_all (ds ++ List.replicate 2 .undef) μ (retK k)) : CallOk (CX w B mg mb) (n + 1) 296 ds μ k :=
  call_entry g (fo := o296_5) (qual := tS "SyntaxTable.modify_all") (cdv := .ref 295) (fun h X => X _ _ (show (KK w.params).lookup 296 = some o296_5 by kernel_rfl)) rfl (fun h X => codeRec_of X (show codeIn (KK w.params) (.ref 295) (tS "SyntaxTable.modify_all") = true by kernel_rfl))
    (ps := ps_SyntaxTable_modify_all) (rest := rs_SyntaxTable_modify_all) (show allB _ _ = true by kernel_rfl) (show allB _ _ = true by kernel_rfl) (show nodupB _ = true by kernel_rfl) ok_SyntaxTable_modify_all_m hl
    (fun s vs _ h => by obtain ⟨a, b, c, rfl⟩ := len3 h; exact .of_eq (by kernel_rfl)) v (by kernel_rfl) (by kernel_rfl) (by kernel_rfl)
theorem fe_sorted_flags {d : D} (v : vcSs (Γ0 G GM) ms_sorted_flags [d] μ (retK k)) : CallOk (CX w B mg mb) (n + 1) 262 [d] μ k :=
  call_entryC g (fo := o262_4) (qual := tS "sorted_flags") (cdv := .ref 261) (fun h X => X _ _ (show (KK w.params).lookup 262 = some o262_4 by kernel_rfl)) rfl (fun h X => codeRec_of X (show codeIn (KK w.params) (.ref 261) (tS "sorted_flags") = true by kernel_rfl))
    (x := tS "text") (by kernel_rfl) (fun n => by kernel_rfl) (show allB _ _ = true by kernel_rfl) ok_sorted_flags_m
    (fun s v _ => .of_eq (by kernel_rfl)) v (by kernel_rfl) (by kernel_rfl) (by kernel_rfl)
end
theorem rds0 {B : Heap} {T : Led} {X : List Addr} {vs : List Value} (h : Rds B T X vs []) : vs = [] := by exact h
theorem rdsS {B : Heap} {T : Led} {X : List Addr} {vs : List Value} {d : D} {ds : List D} (h : Rds B T X vs (d :: ds)) : ∃ v r, vs = v :: r ∧ Rd B T X v d ∧ Rds B T X r ds := by exact h
noncomputable def rhoL : List (Str × D) → Str → Option D
  | [], _ => none
  | (x, d) :: r, y => match sb x y with | true => some d | false => rhoL r y
theorem rhoL_get {B : Heap} {T : Led} {X : List Addr} : ∀ {l : List (Str × D)} {bs : List (Str × Value)}, bs.map (·.1) = l.map (·.1) → nodupB (bs.map (·.1)) = true → Rds B T X (bs.map (·.2)) (l.map (·.2)) → ∀ y d, rhoL l y = some d → ∃ (i : Nat) (v : Value), (bs.map (·.1))[i]? = some y ∧ (bs.map (·.2))[i]? = some v ∧ Rd B T X v d
  | [], _, _, _, _, y, d, h => by cases h
  | (x, d') :: l, [], h1, _, _, _, _, _ => by cases h1
  | (x, d') :: l, (z, v) :: bs, h1, h2, h3, y, d, h => by
    obtain ⟨v', r, e, r1, r2⟩ := rdsS h3
    cases e
    cases h1' : sb x y with
    | true =>
      unfold rhoL at h
      rw [h1'] at h
      cases h
      have hz : z = x := by rw [List.map_cons, List.map_cons] at h1; exact (List.cons.inj h1).1
      exact ⟨0, v, by rw [List.map_cons, hz, sb_eq h1']; rfl, rfl, r1⟩
    | false =>
      unfold rhoL at h
      rw [h1'] at h
      rw [List.map_cons] at h2
      unfold nodupB at h2
      rw [Bool.and_eq_true] at h2
      obtain ⟨i, w, e1, e2, e3⟩ := rhoL_get (by rw [List.map_cons, List.map_cons] at h1; exact (List.cons.inj h1).2) h2.2 r2 y d h
      exact ⟨i + 1, w, e1, e2, e3⟩
theorem rev_lookup {bs : List (Str × Value)} (nd : nodupB (bs.map (·.1)) = true) {i : Nat} {y : Str} {v : Value} (h1 : (bs.map (·.1))[i]? = some y) (h2 : (bs.map (·.2))[i]? = some v) : bs.reverse.lookup y = some v := by
  have := zip_lookup (ps := bs.map (·.1)) (vs := bs.map (·.2)) (nodupB_of nd) (by rw [List.length_map, List.length_map]) h1 h2
  rw [show (bs.map (·.1)).zip (bs.map (·.2)) = bs by
    clear this h1 h2 nd
    induction bs with
    | nil => rfl
    | cons p r ih => rw [List.map_cons, List.map_cons, List.zip_cons_cons, ih]] at this
  exact this
theorem rho_ok {B : Heap} {T : Led} {X : List Addr} {l : List (Str × D)} {self : Str} {xv : Value} {bs : List (Str × Value)} (h1 : bs.map (·.1) = l.map (·.1)) (nd : nodupB (((self, xv) :: bs).map (·.1)) = true) (h3 : Rds B T X (bs.map (·.2)) (l.map (·.2))) :
    ∀ y d, rhoL l y = some d → ∃ v, ((self, xv) :: bs).reverse.lookup y = some v ∧ Rd B T X v d := by
  intro y d h
  have nd' : nodupB (bs.map (·.1)) = true := by
    rw [List.map_cons] at nd
    unfold nodupB at nd
    rw [Bool.and_eq_true] at nd; exact nd.2
  obtain ⟨i, v, e1, e2, e3⟩ := rhoL_get h1 nd' h3 y d h
  exact ⟨v, rev_lookup nd (i := i + 1) e1 e2, e3⟩
theorem clsOk_TextRow (P : Params) : ClsOk (KK P) 391 nfTextRow := ⟨by kernel_rfl, by kernel_rfl, by kernel_rfl, fun x hx => by
  rcases List.mem_cons.mp hx with rfl | hx
  · kernel_rfl
  · rcases List.mem_cons.mp hx with rfl | hx
    · kernel_rfl
    · cases hx⟩
theorem clsOk_Syntax (P : Params) : ClsOk (KK P) 253 nfSyntax := ⟨by kernel_rfl, by kernel_rfl, by kernel_rfl, fun x hx => by
  rcases List.mem_cons.mp hx with rfl | hx
  · kernel_rfl
  · rcases List.mem_cons.mp hx with rfl | hx
    · kernel_rfl
    · rcases List.mem_cons.mp hx with rfl | hx
      · kernel_rfl
      · cases hx⟩
theorem clsOk_Table (P : Params) : ClsOk (KK P) 334 nfSyntaxTable := ⟨by kernel_rfl, by kernel_rfl, by kernel_rfl, fun x hx => by
  rcases List.mem_cons.mp hx with rfl | hx
  · kernel_rfl
  · rcases List.mem_cons.mp hx with rfl | hx
    · kernel_rfl
    · cases hx⟩
theorem sub_TextRow : ∀ p ∈ ([(tS "codes", .lst (tS "codes")), (tS "place", .nm (tS "place"))] : List (Str × Src)), p.1 ∈ nfTextRow := by
  intro p hp
  rcases List.mem_cons.mp hp with rfl | hp
  · exact .head _
  · rcases List.mem_cons.mp hp with rfl | hp
    · exact .tail _ (.head _)
    · cases hp
theorem sub_Syntax : ∀ p ∈ ([(tS "kind", .nm (tS "kind")), (tS "match", .nm (tS "match")), (tS "flags", .nm (tS "flags"))] : List (Str × Src)), p.1 ∈ nfSyntax := by
  intro p hp
  rcases List.mem_cons.mp hp with rfl | hp
  · exact .head _
  · rcases List.mem_cons.mp hp with rfl | hp
    · exact .tail _ (.head _)
    · rcases List.mem_cons.mp hp with rfl | hp
      · exact .tail _ (.tail _ (.head _))
      · cases hp
theorem sub_Table : ∀ p ∈ ([(tS "parent", .nm (tS "parent")), (tS "rows", .dct)] : List (Str × Src)), p.1 ∈ nfSyntaxTable := by
  intro p hp
  rcases List.mem_cons.mp hp with rfl | hp
  · exact .head _
  · rcases List.mem_cons.mp hp with rfl | hp
    · exact .tail _ (.head _)
    · cases hp
theorem mem3 {α : Type} {P : α → Prop} {a b c : α} (h1 : P a) (h2 : P b) (h3 : P c) : ∀ y ∈ [a, b, c], P y := by
  intro y hy
  rcases List.mem_cons.mp hy with rfl | hy
  · exact h1
  · rcases List.mem_cons.mp hy with rfl | hy
    · exact h2
    · rcases List.mem_cons.mp hy with rfl | hy
      · exact h3
      · cases hy
theorem mem2 {α : Type} {P : α → Prop} {a b : α} (h1 : P a) (h2 : P b) : ∀ y ∈ [a, b], P y := by
  intro y hy
  rcases List.mem_cons.mp hy with rfl | hy
  · exact h1
  · rcases List.mem_cons.mp hy with rfl | hy
    · exact h2
    · cases hy
theorem mem4 {α : Type} {P : α → Prop} {a b c d : α} (h1 : P a) (h2 : P b) (h3 : P c) (h4 : P d) : ∀ y ∈ [a, b, c, d], P y := by
  intro y hy
  rcases List.mem_cons.mp hy with rfl | hy
  · exact h1
  · exact mem3 h2 h3 h4 y hy
section
variable {w : World} {B : Heap} {mg mb : Str → Option Value} {n : Nat} (hlist : (CX w B mg mb).mg (Str.ofString "list") = none ∧ (CX w B mg mb).mb (Str.ofString "list") = some (.type "list")) {ds : List D} {μ : Mem} {k : KE}
include hlist
theorem fe_TextRow (h : sp_TextRow ds μ k) : CallOk (CX w B mg mb) (n + 1) 391 ds μ k := by
  obtain ⟨cs, f, hds, hn, hk⟩ := h
  have hn : (cs.map fun c => D.int ((c : Nat) : Int)).length ≤ sizeLine := by rw [List.length_map, sizeLine_eq]; lia
  have hv : vcI (rhoL [(tS "codes", .list (cs.map fun c => .int ((c : Nat) : Int))), (tS "place", .int f)]) [(tS "codes", .lst (tS "codes")), (tS "place", .nm (tS "place"))] [] μ fun fs μ' => k (.inst cTextRow fs) μ' :=
    ⟨_, by kernel_rfl, hn, List.not_mem_nil, _, by kernel_rfl, of_decide_eq_true (by kernel_rfl), hk⟩
  rcases hds with rfl | ⟨rfl, rfl⟩
  · refine cls_entry (C := CX w B mg mb) (c := 391) (fI := 367) (by kernel_rfl) (by kernel_rfl) (by kernel_rfl) (clsOk_TextRow w.params) (fo := o367_6) (qual := tS "TextRow.__init__") (cdv := .ref 366)
      (fun h X => X _ _ (show (KK w.params).lookup 367 = some o367_6 by kernel_rfl)) rfl (fun h X => codeRec_of X (show codeIn (KK w.params) (.ref 366) (tS "TextRow.__init__") = true by kernel_rfl))
      (show allB _ _ = true by kernel_rfl) (self := tS "self") (bs := fun x vs => (tS "self", .ref x) :: [tS "codes", tS "place"].zip vs) (l := [(tS "codes", .lst (tS "codes")), (tS "place", .nm (tS "place"))]) (by kernel_rfl) sub_TextRow (by decide) (by kernel_rfl) (by kernel_rfl)
      (fun x vs h => ?_) (fun x vs h => ?_) (fun s x vs X h => ?_) hlist (fun x vs T X r => ?_) hv (by kernel_rfl) (by kernel_rfl) (by kernel_rfl)
    · obtain ⟨a, b, rfl⟩ := len2 h
      exact mem3 (by kernel_rfl) (by kernel_rfl) (by kernel_rfl)
    · obtain ⟨a, b, rfl⟩ := len2 h
      kernel_rfl
    · obtain ⟨a, b, rfl⟩ := len2 h
      exact BindsTo.of_defaults rfl (X _ _ (show (KK w.params).lookup 360 = some o360_6 by kernel_rfl)) rfl rfl rfl
    · obtain ⟨a, b, rfl⟩ := len2 r.length
      exact rho_ok (bs := [(tS "codes", a), (tS "place", b)]) rfl (by kernel_rfl) r
  · refine cls_entry (C := CX w B mg mb) (c := 391) (fI := 367) (by kernel_rfl) (by kernel_rfl) (by kernel_rfl) (clsOk_TextRow w.params) (fo := o367_6) (qual := tS "TextRow.__init__") (cdv := .ref 366)
      (fun h X => X _ _ (show (KK w.params).lookup 367 = some o367_6 by kernel_rfl)) rfl (fun h X => codeRec_of X (show codeIn (KK w.params) (.ref 366) (tS "TextRow.__init__") = true by kernel_rfl))
      (show allB _ _ = true by kernel_rfl) (self := tS "self") (bs := fun x vs => (tS "self", .ref x) :: [tS "codes", tS "place"].zip (vs ++ [.int 1 683])) (l := [(tS "codes", .lst (tS "codes")), (tS "place", .nm (tS "place"))]) (by kernel_rfl) sub_TextRow (by decide) (by kernel_rfl) (by kernel_rfl)
      (fun x vs h => ?_) (fun x vs h => ?_) (fun s x vs X h => ?_) hlist (fun x vs T X r => ?_) hv (by kernel_rfl) (by kernel_rfl) (by kernel_rfl)
    · obtain ⟨a, rfl⟩ := len1 h
      exact mem3 (by kernel_rfl) (by kernel_rfl) (by kernel_rfl)
    · obtain ⟨a, rfl⟩ := len1 h
      kernel_rfl
    · obtain ⟨a, rfl⟩ := len1 h
      exact BindsTo.of_defaults rfl (X _ _ (show (KK w.params).lookup 360 = some o360_6 by kernel_rfl)) rfl rfl rfl
    · obtain ⟨a, rfl⟩ := len1 r.length
      exact rho_ok (bs := [(tS "codes", a), (tS "place", .int 1 683)]) rfl (by kernel_rfl) (r.append (.one to_int))
theorem fe_Syntax (h : sp_Syntax ds μ k) : CallOk (CX w B mg mb) (n + 1) 253 ds μ k := by
  obtain ⟨x, m, fl, rfl, hm, hk⟩ := h
  have hv : vcI (rhoL [(tS "kind", .str x), (tS "match", m), (tS "flags", .str fl)]) [(tS "kind", .nm (tS "kind")), (tS "match", .nm (tS "match")), (tS "flags", .nm (tS "flags"))] [] μ fun fs μ' => k (.inst cSyntax fs) μ' :=
    ⟨_, by kernel_rfl, List.not_mem_nil, _, by kernel_rfl, of_decide_eq_true (by kernel_rfl), _, by kernel_rfl, of_decide_eq_true (by kernel_rfl), hk⟩
  refine cls_entry (C := CX w B mg mb) (c := 253) (fI := 222) (by kernel_rfl) (by kernel_rfl) (by kernel_rfl) (clsOk_Syntax w.params) (fo := o222_3) (qual := tS "Syntax.__init__") (cdv := .ref 221)
      (fun h X => X _ _ (show (KK w.params).lookup 222 = some o222_3 by kernel_rfl)) rfl (fun h X => codeRec_of X (show codeIn (KK w.params) (.ref 221) (tS "Syntax.__init__") = true by kernel_rfl))
      (show allB _ _ = true by kernel_rfl) (self := tS "self") (bs := fun x vs => (tS "self", .ref x) :: [tS "kind", tS "match", tS "flags"].zip vs) (l := [(tS "kind", .nm (tS "kind")), (tS "match", .nm (tS "match")), (tS "flags", .nm (tS "flags"))]) (by kernel_rfl) sub_Syntax (by decide) (by kernel_rfl) (by kernel_rfl)
      (fun x vs h => ?_) (fun x vs h => ?_) (fun s x vs X h => ?_) hlist (fun x vs T X r => ?_) hv (by kernel_rfl) (by kernel_rfl) (by kernel_rfl)
  · obtain ⟨a, b, c, rfl⟩ := len3 h
    exact mem4 (by kernel_rfl) (by kernel_rfl) (by kernel_rfl) (by kernel_rfl)
  · obtain ⟨a, b, c, rfl⟩ := len3 h
    kernel_rfl
  · obtain ⟨a, b, c, rfl⟩ := len3 h
    exact .of_eq (by kernel_rfl)
  · obtain ⟨a, b, c, rfl⟩ := len3 r.length
    exact rho_ok (bs := [(tS "kind", a), (tS "match", b), (tS "flags", c)]) rfl (by kernel_rfl) r
theorem fe_Table (h : sp_Table ds μ k) : CallOk (CX w B mg mb) (n + 1) 334 ds μ k := by
  obtain ⟨rfl, hk⟩ := h
  have hv : vcI (rhoL [(tS "parent", .none)]) [(tS "parent", .nm (tS "parent")), (tS "rows", .dct)] [] μ fun fs μ' => k (.inst cSyntaxTable fs) μ' :=
    ⟨_, by kernel_rfl, List.not_mem_nil, of_decide_eq_true (by kernel_rfl), fun a ha => hk a ha⟩
  refine cls_entry (C := CX w B mg mb) (c := 334) (fI := 282) (by kernel_rfl) (by kernel_rfl) (by kernel_rfl) (clsOk_Table w.params) (fo := o282_5) (qual := tS "SyntaxTable.__init__") (cdv := .ref 281)
      (fun h X => X _ _ (show (KK w.params).lookup 282 = some o282_5 by kernel_rfl)) rfl (fun h X => codeRec_of X (show codeIn (KK w.params) (.ref 281) (tS "SyntaxTable.__init__") = true by kernel_rfl))
      (show allB _ _ = true by kernel_rfl) (self := tS "self") (bs := fun x vs => (tS "self", .ref x) :: [tS "parent"].zip (vs ++ [.none])) (l := [(tS "parent", .nm (tS "parent")), (tS "rows", .dct)]) (by kernel_rfl) sub_Table (by decide) (by kernel_rfl) (by kernel_rfl)
      (fun x vs h => ?_) (fun x vs h => ?_) (fun s x vs X h => ?_) hlist (fun x vs T X r => ?_) hv (by kernel_rfl) (by kernel_rfl) (by kernel_rfl)
  · obtain rfl := len0 h
    exact mem2 (by kernel_rfl) (by kernel_rfl)
  · obtain rfl := len0 h
    kernel_rfl
  · obtain rfl := len0 h
    exact BindsTo.of_defaults rfl (X _ _ (show (KK w.params).lookup 275 = some o275_5 by kernel_rfl)) rfl rfl rfl
  · obtain rfl := rds0 r
    exact rho_ok (bs := [(tS "parent", .none)]) rfl (by kernel_rfl) (.one to_none)
end
theorem CallOk.mono {C : Cx} {a b : Nat} {f : Addr} {ds : List D} {μ : Mem} {k : KE} (h : CallOk C a f ds μ k) (hab : a ≤ b) : CallOk C b f ds μ k :=
  fun A A₀ fenv outer h₀ L s m T X vs Q E F O r P => h A A₀ fenv outer h₀ L s m T X vs Q E ⟨F.hh, by have := F.hd; lia, by have := F.hu; lia, F.hA, F.hf, F.hk, F.bl, F.wd⟩ O r P
noncomputable def AllI {α : Type} (P : Nat → α → Prop) : Nat → List α → Prop
  | _, [] => True
  | i, a :: r => P i a ∧ AllI P (i + 1) r
theorem AllI.get {α : Type} {P : Nat → α → Prop} : ∀ {l : List α} {i : Nat}, AllI P i l → ∀ (j : Nat) p, l[j]? = some p → P (i + j) p
  | [], i, h, j, p, e => by cases e
  | a :: r, i, h, 0, p, e => by
    rw [List.getElem?_cons_zero] at e
    cases e; exact h.1
  | a :: r, i, h, j + 1, p, e => by
    rw [List.getElem?_cons_succ] at e
    have := AllI.get h.2 j p e
    rw [show i + 1 + j = i + (j + 1) by lia] at this; exact this
structure Bs (w : World) (B : Heap) (mg mb : Str → Option Value) : Prop where
  K : (KK w.params).In B
  g : B.Ns mainGlobals mg
  b : ∀ x : Str, x ≠ "__name__" → mb x = bootBuiltins x
noncomputable def noSp : List D → Mem → KE → Prop := fun _ _ _ => False
noncomputable def spL : List (List D → Mem → KE → Prop) := [sp_at ls, sp_at le, sp_next_start, sp_at be, sp_at bb, sp_atB ilb, sp_atB ile, sp_atB blk, sp_width, sp_codes, sp_column, sp_horizontal, sp_just, sp_wants, sp_fixup, sp_join, sp_pair br beh, sp_at beh, sp_at lbh, sp_ble, sp_trailing, sp_untab, sp_backward, sp_zap, sp_flags, sp_read, sp_letters, sp_table, sp_draw, sp_deck, sp_one, noSp, sp_done, sp_blank, sp_wb, sp_joined, sp_around, sp_TextRow, sp_Syntax, sp_Table]
noncomputable def spM : List (List D → Mem → KE → Prop) := [sp_begin, sp_end, sp_code_at, sp_kind_of, sp_own, sp_own, sp_modify]
noncomputable def Gn (n j : Nat) (ds : List D) (μ : Mem) (k : KE) : Prop := rk j < n ∧ (spL.getD j noSp) ds μ k
noncomputable def GMn (n j : Nat) (ds : List D) (μ : Mem) (k : KE) : Prop := rkM j < n ∧ (spM.getD j noSp) ds μ k
theorem aG {n j : Nat} (h : rk j < n) : AllSp (Gn n) j (spL.getD j noSp) := fun _ _ _ h' => ⟨h, h'⟩
theorem aM {n j : Nat} (h : rkM j < n) : AllSp (GMn n) j (spM.getD j noSp) := fun _ _ _ h' => ⟨h, h'⟩
section
variable {w : World} {B : Heap} {mg mb : Str → Option Value} (b : Bs w B mg mb)
include b
theorem b_mg {x : Str} {v : Value} (e : nsIn (KK w.params) mainGlobals x = some (some v)) : mg x = some v := mg_of b.K b.g e
theorem b_none {x : Str} (e : nsIn (KK w.params) mainGlobals x = some none) : mg x = none := mg_none_of b.K b.g e
theorem b_bi {x : Str} {v : Value} (hx : decide (x = ("__name__" : Str)) = false) (e : bootBuiltins x = some v) : mb x = some v := (b.b x (of_decide_eq_false hx)).trans e
theorem b_list : (CX w B mg mb).mg (Str.ofString "list") = none ∧ (CX w B mg mb).mb (Str.ofString "list") = some (.type "list") := ⟨b_none b (by kernel_rfl), b_bi b (by kernel_rfl) (by kernel_rfl)⟩
theorem good_gl : AllI (fun _ (p : Str × D) => ∃ v, (CX w B mg mb).mg p.1 = some v ∧ Rd B [] [] v p.2) 0 gl0 := by
  refine ⟨⟨.int 10 196, b_mg b (by kernel_rfl), to_int (C := CX w B mg mb)⟩, ⟨.int 32 198, b_mg b (by kernel_rfl), to_int (C := CX w B mg mb)⟩, ⟨.int 9 200, b_mg b (by kernel_rfl), to_int (C := CX w B mg mb)⟩, ⟨.ref 22, b_mg b (by kernel_rfl), ?_⟩, ⟨.int 127 274, b_mg b (by kernel_rfl), to_int (C := CX w B mg mb)⟩, ⟨.str ⟨#[40, 39]⟩ 308, b_mg b (by kernel_rfl), to_str (C := CX w B mg mb)⟩, ⟨.str ⟨#[41]⟩ 310, b_mg b (by kernel_rfl), to_str (C := CX w B mg mb)⟩, ⟨.str ⟨#[32]⟩ 474, b_mg b (by kernel_rfl), to_str (C := CX w B mg mb)⟩, ⟨.str ⟨#[119]⟩ 476, b_mg b (by kernel_rfl), to_str (C := CX w B mg mb)⟩, ⟨.str ⟨#[46]⟩ 478, b_mg b (by kernel_rfl), to_str (C := CX w B mg mb)⟩, ⟨.str ⟨#[64]⟩ 480, b_mg b (by kernel_rfl), to_str (C := CX w B mg mb)⟩, ⟨.str ⟨#[32, 119, 95, 46, 40, 41, 39, 34, 92, 47, 36, 60, 62, 64, 33, 124]⟩ 482, b_mg b (by kernel_rfl), to_str (C := CX w B mg mb)⟩, ⟨.str ⟨#[49, 50, 51, 52, 98, 99, 110, 112]⟩ 484, b_mg b (by kernel_rfl), to_str (C := CX w B mg mb)⟩, trivial⟩
  exact ⟨22, o22_0, [.int 32 198, .int 9 200], 0, rfl, .inl (b.K _ _ (show (KK w.params).lookup 22 = some o22_0 by kernel_rfl)), rfl, rfl, .cons (to_int (C := CX w B mg mb)) (.one (to_int (C := CX w B mg mb)))⟩
theorem good_bi (x : Bi) : (CX w B mg mb).mg (Str.ofString (biName x)) = none ∧ (CX w B mg mb).mb (Str.ofString (biName x)) = some (.builtin (biName x)) := by
  cases x <;> exact ⟨b_none b (by kernel_rfl), b_bi b (by kernel_rfl) (by kernel_rfl)⟩
theorem good_rg : (CX w B mg mb).mg (Str.ofString "range") = none ∧ (CX w B mg mb).mb (Str.ofString "range") = some (.type "range") := ⟨b_none b (by kernel_rfl), b_bi b (by kernel_rfl) (by kernel_rfl)⟩
omit b in
theorem good_at : AllI (fun _ (p : At) => plainGet (CX w B mg mb).K p.cls p.name = true ∧ hasDictIn (CX w B mg mb).K p.cls = true ∧ (∃ a, findIn (CX w B mg mb).K (.ref p.cls) p.name = some a ∧ noGet (CX w B mg mb).K a = true) ∧ p.names[p.i]? = some p.name ∧ p.name ∉ p.names.take p.i) 0 at0 := by
  refine ⟨⟨?_, ?_, ⟨none, ?_, ?_⟩, rfl, ?_⟩, ⟨?_, ?_, ⟨none, ?_, ?_⟩, rfl, ?_⟩, ⟨?_, ?_, ⟨none, ?_, ?_⟩, rfl, ?_⟩, ⟨?_, ?_, ⟨none, ?_, ?_⟩, rfl, ?_⟩, ⟨?_, ?_, ⟨none, ?_, ?_⟩, rfl, ?_⟩, trivial⟩
  all_goals first | exact of_decide_eq_true (by kernel_rfl) | kernel_rfl
omit b in
theorem gf_0 {n : Nat} (IH : Good (CX w B mg mb) (Γ0 (Gn 1) (GMn 1)) 1) {ds : List D} {μ : Mem} {k : KE} (h : Gn n 0 ds μ k) : CallOk (CX w B mg mb) n 29 ds μ k :=
  (fe_line_start IH (by obtain ⟨_, _, _, rfl, _⟩ := h.2 <;> rfl) (vc_line_start (aM (n := 1) (j := 0) (by decide)) (aM (n := 1) (j := 2) (by decide)) h.2)).mono h.1
omit b in
theorem gf_1 {n : Nat} (IH : Good (CX w B mg mb) (Γ0 (Gn 1) (GMn 1)) 1) {ds : List D} {μ : Mem} {k : KE} (h : Gn n 1 ds μ k) : CallOk (CX w B mg mb) n 36 ds μ k :=
  (fe_line_end IH (by obtain ⟨_, _, _, rfl, _⟩ := h.2 <;> rfl) (vc_line_end (aM (n := 1) (j := 1) (by decide)) (aM (n := 1) (j := 2) (by decide)) h.2)).mono h.1
omit b in
theorem gf_2 {n : Nat} (IH : Good (CX w B mg mb) (Γ0 (Gn 2) (GMn 2)) 2) {ds : List D} {μ : Mem} {k : KE} (h : Gn n 2 ds μ k) : CallOk (CX w B mg mb) n 43 ds μ k :=
  (fe_next_start IH (by obtain ⟨_, _, _, rfl, _⟩ := h.2 <;> rfl) (vc_next_start (aM (n := 2) (j := 1) (by decide)) (aG (n := 2) (j := 1) (by decide)) h.2)).mono h.1
omit b in
theorem gf_3 {n : Nat} (IH : Good (CX w B mg mb) (Γ0 (Gn 1) (GMn 1)) 1) {ds : List D} {μ : Mem} {k : KE} (h : Gn n 3 ds μ k) : CallOk (CX w B mg mb) n 50 ds μ k :=
  (fe_blanks_end IH (by obtain ⟨_, _, _, rfl, _⟩ := h.2 <;> rfl) (vc_blanks_end (aM (n := 1) (j := 1) (by decide)) (aM (n := 1) (j := 2) (by decide)) h.2)).mono h.1
omit b in
theorem gf_4 {n : Nat} (IH : Good (CX w B mg mb) (Γ0 (Gn 1) (GMn 1)) 1) {ds : List D} {μ : Mem} {k : KE} (h : Gn n 4 ds μ k) : CallOk (CX w B mg mb) n 57 ds μ k :=
  (fe_blanks_begin IH (by obtain ⟨_, _, _, rfl, _⟩ := h.2 <;> rfl) (vc_blanks_begin (aM (n := 1) (j := 0) (by decide)) (aM (n := 1) (j := 2) (by decide)) h.2)).mono h.1
omit b in
theorem gf_5 {n : Nat} (IH : Good (CX w B mg mb) (Γ0 (Gn 1) (GMn 1)) 1) {ds : List D} {μ : Mem} {k : KE} (h : Gn n 5 ds μ k) : CallOk (CX w B mg mb) n 64 ds μ k :=
  (fe_is_line_begin IH (by obtain ⟨_, _, _, rfl, _⟩ := h.2 <;> rfl) (vc_is_line_begin (aM (n := 1) (j := 0) (by decide)) (aM (n := 1) (j := 2) (by decide)) h.2)).mono h.1
omit b in
theorem gf_6 {n : Nat} (IH : Good (CX w B mg mb) (Γ0 (Gn 1) (GMn 1)) 1) {ds : List D} {μ : Mem} {k : KE} (h : Gn n 6 ds μ k) : CallOk (CX w B mg mb) n 71 ds μ k :=
  (fe_is_line_end IH (by obtain ⟨_, _, _, rfl, _⟩ := h.2 <;> rfl) (vc_is_line_end (aM (n := 1) (j := 1) (by decide)) (aM (n := 1) (j := 2) (by decide)) h.2)).mono h.1
omit b in
theorem gf_7 {n : Nat} (IH : Good (CX w B mg mb) (Γ0 (Gn 2) (GMn 2)) 2) {ds : List D} {μ : Mem} {k : KE} (h : Gn n 7 ds μ k) : CallOk (CX w B mg mb) n 78 ds μ k :=
  (fe_is_blank_line IH (by obtain ⟨_, _, _, rfl, _⟩ := h.2 <;> rfl) (vc_is_blank_line (aG (n := 2) (j := 0) (by decide)) (aG (n := 2) (j := 3) (by decide)) (aG (n := 2) (j := 6) (by decide)) h.2)).mono h.1
omit b in
theorem gf_8 {n : Nat} (IH : Good (CX w B mg mb) (Γ0 (Gn 0) (GMn 0)) 0) {ds : List D} {μ : Mem} {k : KE} (h : Gn n 8 ds μ k) : CallOk (CX w B mg mb) n 85 ds μ k :=
  (fe_width_at IH (by obtain ⟨_, _, _, rfl, _⟩ := h.2 <;> rfl) (vc_width  h.2)).mono h.1
omit b in
theorem gf_9 {n : Nat} (IH : Good (CX w B mg mb) (Γ0 (Gn 1) (GMn 1)) 1) {ds : List D} {μ : Mem} {k : KE} (h : Gn n 9 ds μ k) : CallOk (CX w B mg mb) n 92 ds μ k :=
  (fe_column_of_codes IH (by obtain ⟨_, _, rfl, _⟩ := h.2 <;> rfl) (vc_codes (aG (n := 1) (j := 8) (by decide)) h.2)).mono h.1
omit b in
theorem gf_10 {n : Nat} (IH : Good (CX w B mg mb) (Γ0 (Gn 2) (GMn 2)) 2) {ds : List D} {μ : Mem} {k : KE} (h : Gn n 10 ds μ k) : CallOk (CX w B mg mb) n 99 ds μ k :=
  (fe_column_at IH (by obtain ⟨_, _, _, _, rfl, _⟩ := h.2 <;> rfl) (vc_column (aM (n := 2) (j := 2) (by decide)) (aG (n := 2) (j := 0) (by decide)) (aG (n := 2) (j := 8) (by decide)) h.2)).mono h.1
omit b in
theorem gf_11 {n : Nat} (IH : Good (CX w B mg mb) (Γ0 (Gn 2) (GMn 2)) 2) {ds : List D} {μ : Mem} {k : KE} (h : Gn n 11 ds μ k) : CallOk (CX w B mg mb) n 106 ds μ k :=
  (fe_horizontal_edit IH (by obtain ⟨_, _, _, _, rfl, _⟩ := h.2 <;> rfl) (vc_horizontal (aG (n := 2) (j := 3) (by decide)) (aG (n := 2) (j := 4) (by decide)) h.2)).mono h.1
omit b in
theorem gf_12 {n : Nat} (IH : Good (CX w B mg mb) (Γ0 (Gn 2) (GMn 2)) 2) {ds : List D} {μ : Mem} {k : KE} (h : Gn n 12 ds μ k) : CallOk (CX w B mg mb) n 113 ds μ k :=
  (fe_just_edit IH (by obtain ⟨_, _, _, _, rfl, _⟩ := h.2 <;> rfl) (vc_just (aG (n := 2) (j := 3) (by decide)) (aG (n := 2) (j := 4) (by decide)) h.2)).mono h.1
omit b in
theorem gf_13 {n : Nat} (IH : Good (CX w B mg mb) (Γ0 (Gn 5) (GMn 5)) 5) {ds : List D} {μ : Mem} {k : KE} (h : Gn n 13 ds μ k) : CallOk (CX w B mg mb) n 120 ds μ k :=
  (fe_wants_space IH (by obtain ⟨_, _, _, _, _, rfl, _⟩ := h.2 <;> rfl) (vc_wants (aM (n := 5) (j := 2) (by decide)) (aM (n := 5) (j := 3) (by decide)) (aG (n := 5) (j := 5) (by decide)) (aG (n := 5) (j := 6) (by decide)) h.2)).mono h.1
omit b in
theorem gf_14 {n : Nat} (IH : Good (CX w B mg mb) (Γ0 (Gn 6) (GMn 6)) 6) {ds : List D} {μ : Mem} {k : KE} (h : Gn n 14 ds μ k) : CallOk (CX w B mg mb) n 127 ds μ k :=
  (fe_fixup_edit IH (by obtain ⟨_, _, _, _, rfl, _⟩ := h.2 <;> rfl) (vc_fixup (aG (n := 6) (j := 3) (by decide)) (aG (n := 6) (j := 4) (by decide)) (aG (n := 6) (j := 13) (by decide)) h.2)).mono h.1
omit b in
theorem gf_15 {n : Nat} (IH : Good (CX w B mg mb) (Γ0 (Gn 6) (GMn 6)) 6) {ds : List D} {μ : Mem} {k : KE} (h : Gn n 15 ds μ k) : CallOk (CX w B mg mb) n 134 ds μ k :=
  (fe_join_edit IH (by obtain ⟨_, _, _, _, rfl, _⟩ := h.2 <;> rfl) (vc_join (aM (n := 6) (j := 0) (by decide)) (aG (n := 6) (j := 0) (by decide)) (aG (n := 6) (j := 3) (by decide)) (aG (n := 6) (j := 4) (by decide)) (aG (n := 6) (j := 13) (by decide)) h.2)).mono h.1
omit b in
theorem gf_16 {n : Nat} (IH : Good (CX w B mg mb) (Γ0 (Gn 4) (GMn 4)) 4) {ds : List D} {μ : Mem} {k : KE} (h : Gn n 16 ds μ k) : CallOk (CX w B mg mb) n 141 ds μ k :=
  (fe_blank_run IH (by obtain ⟨_, _, _, rfl, _⟩ := h.2 <;> rfl) (vc_blank_run (aM (n := 4) (j := 0) (by decide)) (aG (n := 4) (j := 0) (by decide)) (aG (n := 4) (j := 7) (by decide)) (aG (n := 4) (j := 17) (by decide)) h.2)).mono h.1
omit b in
theorem gf_17 {n : Nat} (IH : Good (CX w B mg mb) (Γ0 (Gn 3) (GMn 3)) 3) {ds : List D} {μ : Mem} {k : KE} (h : Gn n 17 ds μ k) : CallOk (CX w B mg mb) n 148 ds μ k :=
  (fe_behind_blanks IH (by obtain ⟨_, _, _, rfl, _⟩ := h.2 <;> rfl) (vc_behind_blanks (aM (n := 3) (j := 1) (by decide)) (aG (n := 3) (j := 2) (by decide)) (aG (n := 3) (j := 7) (by decide)) h.2)).mono h.1
omit b in
theorem gf_18 {n : Nat} (IH : Good (CX w B mg mb) (Γ0 (Gn 3) (GMn 3)) 3) {ds : List D} {μ : Mem} {k : KE} (h : Gn n 18 ds μ k) : CallOk (CX w B mg mb) n 155 ds μ k :=
  (fe_line_behind IH (by obtain ⟨_, _, _, rfl, _⟩ := h.2 <;> rfl) (vc_line_behind (aM (n := 3) (j := 1) (by decide)) (aG (n := 3) (j := 2) (by decide)) h.2)).mono h.1
omit b in
theorem gf_19 {n : Nat} (IH : Good (CX w B mg mb) (Γ0 (Gn 5) (GMn 5)) 5) {ds : List D} {μ : Mem} {k : KE} (h : Gn n 19 ds μ k) : CallOk (CX w B mg mb) n 160 ds μ k :=
  (fe_blank_lines_edits IH (by obtain ⟨_, _, _, rfl, _⟩ := h.2 <;> rfl) (vc_ble (aM (n := 5) (j := 1) (by decide)) (aG (n := 5) (j := 0) (by decide)) (aG (n := 5) (j := 1) (by decide)) (aG (n := 5) (j := 7) (by decide)) (aG (n := 5) (j := 16) (by decide)) (aG (n := 5) (j := 17) (by decide)) (aG (n := 5) (j := 18) (by decide)) h.2)).mono h.1
omit b in
theorem gf_20 {n : Nat} (IH : Good (CX w B mg mb) (Γ0 (Gn 2) (GMn 2)) 2) {ds : List D} {μ : Mem} {k : KE} (h : Gn n 20 ds μ k) : CallOk (CX w B mg mb) n 167 ds μ k :=
  (fe_trailing_edits IH (by obtain ⟨_, _, _, _, rfl, _⟩ := h.2 <;> rfl) (vc_trailing (aM (n := 2) (j := 1) (by decide)) (aG (n := 2) (j := 1) (by decide)) (aG (n := 2) (j := 4) (by decide)) h.2)).mono h.1
omit b in
theorem gf_21 {n : Nat} (IH : Good (CX w B mg mb) (Γ0 (Gn 3) (GMn 3)) 3) {ds : List D} {μ : Mem} {k : KE} (h : Gn n 21 ds μ k) : CallOk (CX w B mg mb) n 174 ds μ k :=
  (fe_untabified IH (by obtain ⟨_, _, _, _, rfl, _⟩ := h.2 <;> rfl) (vc_untab (aG (n := 3) (j := 9) (by decide)) (aG (n := 3) (j := 10) (by decide)) h.2)).mono h.1
omit b in
theorem gf_22 {n : Nat} (IH : Good (CX w B mg mb) (Γ0 (Gn 4) (GMn 4)) 4) {ds : List D} {μ : Mem} {k : KE} (h : Gn n 22 ds μ k) : CallOk (CX w B mg mb) n 181 ds μ k :=
  (fe_backward_edit IH (by obtain ⟨_, _, _, _, rfl, _⟩ := h.2 <;> rfl) (vc_backward (aM (n := 4) (j := 2) (by decide)) (aG (n := 4) (j := 21) (by decide)) h.2)).mono h.1
omit b in
theorem gf_23 {n : Nat} (IH : Good (CX w B mg mb) (Γ0 (Gn 1) (GMn 1)) 1) {ds : List D} {μ : Mem} {k : KE} (h : Gn n 23 ds μ k) : CallOk (CX w B mg mb) n 188 ds μ k :=
  (fe_zap_end IH (by obtain ⟨_, _, _, _, _, _, _, ⟨rfl, _⟩ | ⟨rfl, _⟩⟩ := h.2 <;> rfl) (vc_zap (aM (n := 1) (j := 0) (by decide)) (aM (n := 1) (j := 1) (by decide)) (aM (n := 1) (j := 2) (by decide)) h.2)).mono h.1
omit b in
theorem gf_24 {n : Nat} (IH : Good (CX w B mg mb) (Γ0 (Gn 1) (GMn 1)) 1) {ds : List D} {μ : Mem} {k : KE} (h : Gn n 24 ds μ k) : CallOk (CX w B mg mb) n 262 ds μ k := by
  have v := vc_flags (G := Gn 1) (GM := GMn 1) h.2
  obtain ⟨rfl, _⟩ : ds = [.str (S8 [])] ∧ True := ⟨h.2.1, trivial⟩
  exact (fe_sorted_flags IH v).mono h.1
omit b in
theorem gf_25 {n : Nat} (IH : Good (CX w B mg mb) (Γ0 (Gn 2) (GMn 2)) 2) {ds : List D} {μ : Mem} {k : KE} (h : Gn n 25 ds μ k) : CallOk (CX w B mg mb) n 267 ds μ k :=
  (fe_read_syntax IH (by obtain ⟨_, _, rfl, _⟩ := h.2 <;> rfl) (vc_read (aG (n := 2) (j := 24) (by decide)) (aG (n := 2) (j := 38) (by decide)) h.2)).mono h.1
omit b in
theorem gf_26 {n : Nat} (IH : Good (CX w B mg mb) (Γ0 (Gn 0) (GMn 0)) 0) {ds : List D} {μ : Mem} {k : KE} (h : Gn n 26 ds μ k) : CallOk (CX w B mg mb) n 345 ds μ k :=
  (fe_letters IH (by obtain ⟨rfl, _⟩ := h.2 <;> rfl) (vc_letters  h.2)).mono h.1
omit b in
theorem gf_27 {n : Nat} (IH : Good (CX w B mg mb) (Γ0 (Gn 4) (GMn 4)) 4) {ds : List D} {μ : Mem} {k : KE} (h : Gn n 27 ds μ k) : CallOk (CX w B mg mb) n 352 ds μ k :=
  (fe_standard_table IH (by obtain ⟨rfl, _⟩ := h.2 <;> rfl) (vc_table (aM (n := 4) (j := 6) (by decide)) (aG (n := 4) (j := 26) (by decide)) (aG (n := 4) (j := 39) (by decide)) h.2)).mono h.1
omit b in
theorem gf_28 {n : Nat} (IH : Good (CX w B mg mb) (Γ0 (Gn 0) (GMn 0)) 0) {ds : List D} {μ : Mem} {k : KE} (h : Gn n 28 ds μ k) : CallOk (CX w B mg mb) n 402 ds μ k :=
  (fe_law_draw IH (by obtain ⟨_, _, rfl, _⟩ := h.2 <;> rfl) (vc_draw  h.2)).mono h.1
omit b in
theorem gf_29 {n : Nat} (IH : Good (CX w B mg mb) (Γ0 (Gn 0) (GMn 0)) 0) {ds : List D} {μ : Mem} {k : KE} (h : Gn n 29 ds μ k) : CallOk (CX w B mg mb) n 407 ds μ k :=
  (fe_law_deck_of IH (by obtain ⟨_, rfl, _⟩ := h.2 <;> rfl) (vc_deck  h.2)).mono h.1
omit b in
theorem gf_30 {n : Nat} (IH : Good (CX w B mg mb) (Γ0 (Gn 1) (GMn 1)) 1) {ds : List D} {μ : Mem} {k : KE} (h : Gn n 30 ds μ k) : CallOk (CX w B mg mb) n 414 ds μ k :=
  (fe_law_one IH (by obtain ⟨_, _, rfl, _⟩ := h.2 <;> rfl) (vc_one (aG (n := 1) (j := 28) (by decide)) h.2)).mono h.1
omit b in
theorem gf_32 {n : Nat} (IH : Good (CX w B mg mb) (Γ0 (Gn 0) (GMn 0)) 0) {ds : List D} {μ : Mem} {k : KE} (h : Gn n 32 ds μ k) : CallOk (CX w B mg mb) n 424 ds μ k :=
  (fe_law_done IH (by obtain ⟨_, _, _, rfl, _⟩ := h.2 <;> rfl) (vc_done  h.2)).mono h.1
omit b in
theorem gf_33 {n : Nat} (IH : Good (CX w B mg mb) (Γ0 (Gn 0) (GMn 0)) 0) {ds : List D} {μ : Mem} {k : KE} (h : Gn n 33 ds μ k) : CallOk (CX w B mg mb) n 431 ds μ k :=
  (fe_law_blank IH (by obtain ⟨_, rfl, _⟩ := h.2 <;> rfl) (vc_blank  h.2)).mono h.1
omit b in
theorem gf_34 {n : Nat} (IH : Good (CX w B mg mb) (Γ0 (Gn 1) (GMn 1)) 1) {ds : List D} {μ : Mem} {k : KE} (h : Gn n 34 ds μ k) : CallOk (CX w B mg mb) n 436 ds μ k :=
  (fe_law_without_blanks IH (by obtain ⟨_, _, _, _, _, _, rfl, _⟩ := h.2 <;> rfl) (vc_wb (aG (n := 1) (j := 33) (by decide)) h.2)).mono h.1
omit b in
theorem gf_35 {n : Nat} (IH : Good (CX w B mg mb) (Γ0 (Gn 0) (GMn 0)) 0) {ds : List D} {μ : Mem} {k : KE} (h : Gn n 35 ds μ k) : CallOk (CX w B mg mb) n 443 ds μ k :=
  (fe_law_joined IH (by obtain ⟨_, _, _, _, _, _, rfl, _⟩ := h.2 <;> rfl) (vc_joined  h.2)).mono h.1
omit b in
theorem gf_36 {n : Nat} (IH : Good (CX w B mg mb) (Γ0 (Gn 0) (GMn 0)) 0) {ds : List D} {μ : Mem} {k : KE} (h : Gn n 36 ds μ k) : CallOk (CX w B mg mb) n 450 ds μ k :=
  (fe_law_around IH (by obtain ⟨_, _, rfl, _⟩ := h.2 <;> rfl) (vc_around  h.2)).mono h.1
theorem gf_37 {n : Nat} {ds : List D} {μ : Mem} {k : KE} (h : Gn n 37 ds μ k) : CallOk (CX w B mg mb) n 391 ds μ k := (fe_TextRow (n := 1) (b_list b) h.2).mono h.1
theorem gf_38 {n : Nat} {ds : List D} {μ : Mem} {k : KE} (h : Gn n 38 ds μ k) : CallOk (CX w B mg mb) n 253 ds μ k := (fe_Syntax (n := 1) (b_list b) h.2).mono h.1
theorem gf_39 {n : Nat} {ds : List D} {μ : Mem} {k : KE} (h : Gn n 39 ds μ k) : CallOk (CX w B mg mb) n 334 ds μ k := (fe_Table (n := 1) (b_list b) h.2).mono h.1
omit b in
theorem gm_0 {n : Nat} (IH : Good (CX w B mg mb) (Γ0 (Gn 0) (GMn 0)) 0) {ds : List D} {μ : Mem} {k : KE} (h : GMn n 0 ds μ k) : CallOk (CX w B mg mb) n 374 ds μ k :=
  (fe_TextRow_begin IH (by obtain ⟨_, _, rfl, _⟩ := h.2 <;> rfl) (vc_begin  h.2)).mono h.1
omit b in
theorem gm_1 {n : Nat} (IH : Good (CX w B mg mb) (Γ0 (Gn 0) (GMn 0)) 0) {ds : List D} {μ : Mem} {k : KE} (h : GMn n 1 ds μ k) : CallOk (CX w B mg mb) n 381 ds μ k :=
  (fe_TextRow_end IH (by obtain ⟨_, _, rfl, _⟩ := h.2 <;> rfl) (vc_end  h.2)).mono h.1
omit b in
theorem gm_2 {n : Nat} (IH : Good (CX w B mg mb) (Γ0 (Gn 0) (GMn 0)) 0) {ds : List D} {μ : Mem} {k : KE} (h : GMn n 2 ds μ k) : CallOk (CX w B mg mb) n 388 ds μ k :=
  (fe_TextRow_code_at IH (by obtain ⟨_, _, _, rfl, _⟩ := h.2 <;> rfl) (vc_code_at  h.2)).mono h.1
omit b in
theorem gm_3 {n : Nat} (IH : Good (CX w B mg mb) (Γ0 (Gn 4) (GMn 4)) 4) {ds : List D} {μ : Mem} {k : KE} (h : GMn n 3 ds μ k) : CallOk (CX w B mg mb) n 324 ds μ k :=
  (fe_SyntaxTable_kind_of IH (by obtain ⟨_, _, rfl, _⟩ := h.2 <;> rfl) (vc_kind_of (aM (n := 4) (j := 5) (by decide)) h.2)).mono h.1
omit b in
theorem gm_4 {n : Nat} (IH : Good (CX w B mg mb) (Γ0 (Gn 1) (GMn 1)) 1) {ds : List D} {μ : Mem} {k : KE} (h : GMn n 4 ds μ k) : CallOk (CX w B mg mb) n 310 ds μ k :=
  (fe_SyntaxTable_own IH (by obtain ⟨_, _, _, _, _, rfl, _⟩ := h.2 <;> rfl) (vc_own  h.2)).mono h.1
omit b in
theorem gm_5 {n : Nat} (IH : Good (CX w B mg mb) (Γ0 (Gn 3) (GMn 3)) 3) {ds : List D} {μ : Mem} {k : KE} (h : GMn n 5 ds μ k) : CallOk (CX w B mg mb) n 317 ds μ k :=
  (fe_SyntaxTable_at IH (by obtain ⟨_, _, _, _, _, rfl, _⟩ := h.2 <;> rfl) (vc_at (aM (n := 3) (j := 4) (by decide)) h.2)).mono h.1
omit b in
theorem gm_6 {n : Nat} (IH : Good (CX w B mg mb) (Γ0 (Gn 3) (GMn 3)) 3) {ds : List D} {μ : Mem} {k : KE} (h : GMn n 6 ds μ k) : CallOk (CX w B mg mb) n 296 ds μ k :=
  (fe_SyntaxTable_modify_all IH (by obtain ⟨_, _, _, _, _, _, rfl, _⟩ := h.2 <;> rfl) (vc_modify (aG (n := 3) (j := 25) (by decide)) h.2)).mono h.1
theorem good_fn {n : Nat} (IH : ∀ r, r < n → Good (CX w B mg mb) (Γ0 (Gn r) (GMn r)) r) : AllI (fun j (p : Str × Addr) => (CX w B mg mb).mg p.1 = some (.ref p.2) ∧ keepIn (CX w B mg mb).K (.ref p.2) = true ∧ ∀ ds μ k, Gn n j ds μ k → CallOk (CX w B mg mb) n p.2 ds μ k) 0 fn0 :=
  ⟨⟨b_mg b (by kernel_rfl), by kernel_rfl, fun _ _ _ h => gf_0 (IH 1 h.1) h⟩, ⟨b_mg b (by kernel_rfl), by kernel_rfl, fun _ _ _ h => gf_1 (IH 1 h.1) h⟩, ⟨b_mg b (by kernel_rfl), by kernel_rfl, fun _ _ _ h => gf_2 (IH 2 h.1) h⟩, ⟨b_mg b (by kernel_rfl), by kernel_rfl, fun _ _ _ h => gf_3 (IH 1 h.1) h⟩, ⟨b_mg b (by kernel_rfl), by kernel_rfl, fun _ _ _ h => gf_4 (IH 1 h.1) h⟩, ⟨b_mg b (by kernel_rfl), by kernel_rfl, fun _ _ _ h => gf_5 (IH 1 h.1) h⟩, ⟨b_mg b (by kernel_rfl), by kernel_rfl, fun _ _ _ h => gf_6 (IH 1 h.1) h⟩, ⟨b_mg b (by kernel_rfl), by kernel_rfl, fun _ _ _ h => gf_7 (IH 2 h.1) h⟩, ⟨b_mg b (by kernel_rfl), by kernel_rfl, fun _ _ _ h => gf_8 (IH 0 h.1) h⟩, ⟨b_mg b (by kernel_rfl), by kernel_rfl, fun _ _ _ h => gf_9 (IH 1 h.1) h⟩, ⟨b_mg b (by kernel_rfl), by kernel_rfl, fun _ _ _ h => gf_10 (IH 2 h.1) h⟩, ⟨b_mg b (by kernel_rfl), by kernel_rfl, fun _ _ _ h => gf_11 (IH 2 h.1) h⟩, ⟨b_mg b (by kernel_rfl), by kernel_rfl, fun _ _ _ h => gf_12 (IH 2 h.1) h⟩, ⟨b_mg b (by kernel_rfl), by kernel_rfl, fun _ _ _ h => gf_13 (IH 5 h.1) h⟩, ⟨b_mg b (by kernel_rfl), by kernel_rfl, fun _ _ _ h => gf_14 (IH 6 h.1) h⟩, ⟨b_mg b (by kernel_rfl), by kernel_rfl, fun _ _ _ h => gf_15 (IH 6 h.1) h⟩, ⟨b_mg b (by kernel_rfl), by kernel_rfl, fun _ _ _ h => gf_16 (IH 4 h.1) h⟩, ⟨b_mg b (by kernel_rfl), by kernel_rfl, fun _ _ _ h => gf_17 (IH 3 h.1) h⟩, ⟨b_mg b (by kernel_rfl), by kernel_rfl, fun _ _ _ h => gf_18 (IH 3 h.1) h⟩, ⟨b_mg b (by kernel_rfl), by kernel_rfl, fun _ _ _ h => gf_19 (IH 5 h.1) h⟩, ⟨b_mg b (by kernel_rfl), by kernel_rfl, fun _ _ _ h => gf_20 (IH 2 h.1) h⟩, ⟨b_mg b (by kernel_rfl), by kernel_rfl, fun _ _ _ h => gf_21 (IH 3 h.1) h⟩, ⟨b_mg b (by kernel_rfl), by kernel_rfl, fun _ _ _ h => gf_22 (IH 4 h.1) h⟩, ⟨b_mg b (by kernel_rfl), by kernel_rfl, fun _ _ _ h => gf_23 (IH 1 h.1) h⟩, ⟨b_mg b (by kernel_rfl), by kernel_rfl, fun _ _ _ h => gf_24 (IH 1 h.1) h⟩, ⟨b_mg b (by kernel_rfl), by kernel_rfl, fun _ _ _ h => gf_25 (IH 2 h.1) h⟩, ⟨b_mg b (by kernel_rfl), by kernel_rfl, fun _ _ _ h => gf_26 (IH 0 h.1) h⟩, ⟨b_mg b (by kernel_rfl), by kernel_rfl, fun _ _ _ h => gf_27 (IH 4 h.1) h⟩, ⟨b_mg b (by kernel_rfl), by kernel_rfl, fun _ _ _ h => gf_28 (IH 0 h.1) h⟩, ⟨b_mg b (by kernel_rfl), by kernel_rfl, fun _ _ _ h => gf_29 (IH 0 h.1) h⟩, ⟨b_mg b (by kernel_rfl), by kernel_rfl, fun _ _ _ h => gf_30 (IH 1 h.1) h⟩, ⟨b_mg b (by kernel_rfl), by kernel_rfl, fun _ _ _ h => h.2.elim⟩, ⟨b_mg b (by kernel_rfl), by kernel_rfl, fun _ _ _ h => gf_32 (IH 0 h.1) h⟩, ⟨b_mg b (by kernel_rfl), by kernel_rfl, fun _ _ _ h => gf_33 (IH 0 h.1) h⟩, ⟨b_mg b (by kernel_rfl), by kernel_rfl, fun _ _ _ h => gf_34 (IH 1 h.1) h⟩, ⟨b_mg b (by kernel_rfl), by kernel_rfl, fun _ _ _ h => gf_35 (IH 0 h.1) h⟩, ⟨b_mg b (by kernel_rfl), by kernel_rfl, fun _ _ _ h => gf_36 (IH 0 h.1) h⟩, ⟨b_mg b (by kernel_rfl), by kernel_rfl, fun _ _ _ h => gf_37 b h⟩, ⟨b_mg b (by kernel_rfl), by kernel_rfl, fun _ _ _ h => gf_38 b h⟩, ⟨b_mg b (by kernel_rfl), by kernel_rfl, fun _ _ _ h => gf_39 b h⟩, trivial⟩
omit b in
theorem good_mt {n : Nat} (IH : ∀ r, r < n → Good (CX w B mg mb) (Γ0 (Gn r) (GMn r)) r) : AllI (fun j (p : Mt) => plainGet (CX w B mg mb).K p.cls p.name = true ∧ findIn (CX w B mg mb).K (.ref p.cls) p.name = some (some (.ref p.fn)) ∧ isFn (CX w B mg mb).K (.ref p.fn) = true ∧ keepIn (CX w B mg mb).K (.ref p.fn) = true ∧ p.name ∉ p.names ∧
    ∀ d ds μ k, GMn n j (d :: ds) μ k → CallOk (CX w B mg mb) n p.fn (d :: ds) μ k) 0 mt0 :=
  ⟨⟨by kernel_rfl, by kernel_rfl, by kernel_rfl, by kernel_rfl, of_decide_eq_true (by kernel_rfl), fun _ _ _ _ h => gm_0 (IH 0 h.1) h⟩, ⟨by kernel_rfl, by kernel_rfl, by kernel_rfl, by kernel_rfl, of_decide_eq_true (by kernel_rfl), fun _ _ _ _ h => gm_1 (IH 0 h.1) h⟩, ⟨by kernel_rfl, by kernel_rfl, by kernel_rfl, by kernel_rfl, of_decide_eq_true (by kernel_rfl), fun _ _ _ _ h => gm_2 (IH 0 h.1) h⟩, ⟨by kernel_rfl, by kernel_rfl, by kernel_rfl, by kernel_rfl, of_decide_eq_true (by kernel_rfl), fun _ _ _ _ h => gm_3 (IH 4 h.1) h⟩, ⟨by kernel_rfl, by kernel_rfl, by kernel_rfl, by kernel_rfl, of_decide_eq_true (by kernel_rfl), fun _ _ _ _ h => gm_4 (IH 1 h.1) h⟩, ⟨by kernel_rfl, by kernel_rfl, by kernel_rfl, by kernel_rfl, of_decide_eq_true (by kernel_rfl), fun _ _ _ _ h => gm_5 (IH 3 h.1) h⟩, ⟨by kernel_rfl, by kernel_rfl, by kernel_rfl, by kernel_rfl, of_decide_eq_true (by kernel_rfl), fun _ _ _ _ h => gm_6 (IH 3 h.1) h⟩, trivial⟩
theorem good (n : Nat) : Good (CX w B mg mb) (Γ0 (Gn n) (GMn n)) n := by
  induction n using Nat.strongRecOn with
  | _ n IH =>
    refine ⟨fun j p h => ?_, fun j p h => ?_, fun j p h => ?_, fun j p h => ?_, good_bi b, good_rg b⟩
    · have := (good_gl b).get j p h; exact this
    · have := (good_fn b IH).get j p h; rw [Nat.zero_add] at this; exact this
    · have := (good_mt IH).get j p h; rw [Nat.zero_add] at this; exact this
    · have := (good_at (w := w) (B := B) (mg := mg) (mb := mb)).get j p h; exact this
end
theorem rds_ints {B : Heap} {T : Led} {X : List Addr} : ∀ {vs : List Value} {ns : List Int}, IntsAre vs ns → Rds B T X vs (ns.map .int) := by
  intro vs ns h
  induction h with
  | nil => exact .nil
  | cons _ _ _ ih => exact .cons (by exact ⟨_, rfl⟩) ih
theorem sps7 : Sps (Gn 7) (GMn 7) where
  c11 := aG (by decide)
  c12 := aG (by decide)
  c14 := aG (by decide)
  c15 := aG (by decide)
  c19 := aG (by decide)
  c20 := aG (by decide)
  c22 := aG (by decide)
  c23 := aG (by decide)
  c27 := aG (by decide)
  c28 := aG (by decide)
  c29 := aG (by decide)
  c30 := aG (by decide)
  c32 := aG (by decide)
  c34 := aG (by decide)
  c35 := aG (by decide)
  c36 := aG (by decide)
  c37 := aG (by decide)
theorem law_cells (L : Addr) : cellsFrom (L + 1) dLaw.scope.names [] = [(tS "_law_text", L + 1 + 1), (tS "_law_deck", L + 1)] := by kernel_rfl
theorem law_entry {w : World} {s₁ : Shared} {mg mb : Str → Option Value} (b : Bs w s₁.heap mg mb) (hb : s₁.heap.Ns builtinsNs mb) (hnl : s₁.heap.NoLimit) (hsm : ∃ o, s₁.heap.get? sysModules = some o) (K0 : Below callerA s₁.heap [] s₁.heap)
    {fa : Addr} {cdv : Value} {L : Addr} {h₁ : Heap} {tk : Nat} {m : Str → Option Value} (F : Fr s₁.heap L h₁ m) {l : Addr} (hm : m (tS "script") = some (.ref l)) {o1 o2 : Obj} {c1 c2 : Option Value} (N0 : News s₁.heap L h₁ [(L + 1 + 1, o1), (L + 1, o2)]) (d1 : o1.data = .cell c1) (d2 : o2.data = .cell c2)
    {vs : List Value} {ns : List Int} (hl : s₁.heap.IsList l vs.toArray) (hi : IntsAre vs ns) (hn : ns.length ≤ 63) {Q : Flow → Shared → Prop} {E : Value → Shared → Prop}
    (hQ : ∀ h' tk' m', Fr s₁.heap L h' m' → Q (.ret (.bool true)) { s₁ with heap := h', toks := tk' }) :
    wpAny (model pw w) (callerA.deeper (envOfC dLaw.name dLaw.scope L fa cdv)) (execs dLaw.body (envOfC dLaw.name dLaw.scope L fa cdv)) Q E { s₁ with heap := h₁, toks := tk } := by
  have eC : (envOfC dLaw.name dLaw.scope L fa cdv).cells = [(tS "_law_text", L + 1 + 1), (tS "_law_deck", L + 1)] := law_cells L
  have F2 : Fm (CX w s₁.heap mg mb) 7 (callerA.deeper (envOfC dLaw.name dLaw.scope L fa cdv)) callerA (envOfC dLaw.name dLaw.scope L fa cdv) [] s₁.heap L :=
    ⟨rfl, by show callerA.depth + 1 + 4 * 7 + 8 < recursionLimit; decide, by show callerA.units + 3 + 32 * 7 + 200 < cLine; decide, rfl, rfl, by kernel_rfl, K0, ⟨b.K, b.g, hb, hnl, b.b, hsm⟩⟩
  have O : Ok (CX w s₁.heap mg mb) s₁.heap L { s₁ with heap := h₁, toks := tk } m [(L + 1 + 1, o1), (L + 1, o2)] [L + 1 + 1, L + 1] [] := by
    refine ⟨F, N0, fun x hx => (by cases hx), fun a ha => (by cases ha), fun a ha => ?_, fun b o e => e⟩
    rcases List.mem_cons.mp ha with rfl | ha
    · exact ⟨o1, .head _⟩
    · rcases List.mem_cons.mp ha with rfl | ha
      · exact ⟨o2, .tail _ (.head _)⟩
      · cases ha
  have V : EnvOk (CX w s₁.heap mg mb) L (envOfC dLaw.name dLaw.scope L fa cdv) ⟨ps_law ++ rs_law, fS (dA 62)⟩ m [(L + 1 + 1, o1), (L + 1, o2)] [L + 1 + 1, L + 1] (keys []) ([.list (ns.map .int)] ++ List.replicate 24 .undef) := by
    refine ⟨by kernel_rfl, rfl, rfl, rfl, fun x hx => hx, fun i x d hi' hv hlo hd => ?_, fun x hx => ?_⟩
    · cases i with
      | zero =>
        have ex : x = tS "script" := (Option.some.inj hi').symm
        have ed : d = .list (ns.map .int) := (Option.some.inj hlo).symm
        subst ex; subst ed
        refine ⟨.ref l, .loc (by kernel_rfl) rfl hm, ?_⟩
        obtain ⟨o, ho, hc, n, hd'⟩ := hl
        exact ⟨l, o, vs, n, rfl, .inl ho, hc, hd', rds_ints hi⟩
      | succ i =>
        rw [List.getElem?_append_right (by show 1 ≤ i + 1; (clear hn; lia))] at hlo
        have := List.mem_of_getElem? hlo
        rw [List.eq_of_mem_replicate this] at hd
        cases hd
    · have := allB_of (p := fun y : Str × NameKind => match y.2 with | .cell => sb y.1 (tS "_law_text") || sb y.1 (tS "_law_deck") | _ => true) (show allB _ (fS (dA 62)).names = true by kernel_rfl) _ (lookup_mem hx)
      have this : (sb x (tS "_law_text") || sb x (tS "_law_deck")) = true := this
      refine ⟨hx, ?_⟩
      rw [eC]
      rw [Bool.or_eq_true] at this
      rcases this with h | h
      · rw [sb_eq h]; exact ⟨L + 1 + 1, by kernel_rfl⟩
      · rw [sb_eq h]; exact ⟨L + 1, by kernel_rfl⟩
  have H : StS (CX w s₁.heap mg mb) 7 ⟨ps_law ++ rs_law, fS (dA 62)⟩ (callerA.deeper (envOfC dLaw.name dLaw.scope L fa cdv)) callerA (envOfC dLaw.name dLaw.scope L fa cdv) [] s₁.heap L (envOfC dLaw.name dLaw.scope L fa cdv) { s₁ with heap := h₁, toks := tk } m [(L + 1 + 1, o1), (L + 1, o2)] [L + 1 + 1, L + 1] [] ([.list (ns.map .int)] ++ List.replicate 24 .undef) := by
    refine ⟨⟨F2, V, O⟩, by kernel_rfl, rfl, nodupB_of (by kernel_rfl), fun c hc => ?_, fun x y c hx hy => ?_⟩
    · unfold cs at hc
      rw [eC] at hc
      rcases List.mem_cons.mp hc with rfl | hc
      · exact ⟨.head _, List.not_mem_nil, o1, c1, .head _, d1⟩
      · rcases List.mem_cons.mp hc with rfl | hc
        · exact ⟨.tail _ (.head _), List.not_mem_nil, o2, c2, .tail _ (.head _), d2⟩
        · cases hc
    · rw [eC] at hx hy
      have lk : ∀ z, [(tS "_law_text", L + 1 + 1), (tS "_law_deck", L + 1)].lookup z = some c → (z = tS "_law_text" ∧ c = L + 1 + 1) ∨ (z = tS "_law_deck" ∧ c = L + 1) := by
        intro z hz
        rcases List.mem_cons.mp (lookup_mem hz) with e | e
        · cases e; exact .inl ⟨rfl, rfl⟩
        · rcases List.mem_cons.mp e with e | e
          · cases e; exact .inr ⟨rfl, rfl⟩
          · cases e
      rcases lk x hx with ⟨rfl, h1⟩ | ⟨rfl, h1⟩ <;> rcases lk y hy with ⟨rfl, h2⟩ | ⟨rfl, h2⟩
      · rfl
      · rw [h1] at h2; exact absurd h2 (Nat.succ_ne_self _)
      · rw [h1] at h2; exact absurd h2.symm (Nat.succ_ne_self _)
      · rfl
  have v := vc_law sps7 (μ := []) ns hn (fun d _ => d = .bool true) fun _ => rfl
  refine allSs (good b 7) ms_law _ (fB (dA 62)) ok_law_m _ _ _ _ _ _ _ _ _ _ _ _ _ _ _ _ H v fun oo m2 h2 tk2 T2 X2 μ2 loc2 H2 st2 hk2 => ?_
  cases oo with
  | next => cases (show D.none = D.bool true from hk2)
  | ret d =>
    intro va r
    have hk2 : d = .bool true := hk2
    subst hk2
    obtain rfl := rd_bool r
    exact hQ h2 tk2 m2 H2.O.F
theorem walk : WalkO vw loose (XL vw []) HK.says rOp.toRowW dLaw [] fun f vs => PySem.call f vs := by
  intro w s₀ s₁ mg mb G Y fa o pm cd doc dV kV ho hd hcd hD hmg hg args vals as hpre hlay hrd hwl hlo
  have KX := kIn_of Y
  refine Ground.open G ?_
  intro T B D TE TW
  clear D TE TW
  have TA := at_of_top T
  try (obtain ⟨_, _, he, B0⟩ := based_of_top T rfl hmg ho hd; have he' : cd = _ := he; subst he'; clear he)
  clear hmg
  wrow_args hpre hlay hrd hwl hlo
  all_goals (
    first | refine callC_kw (enter_call ?_) | refine enter_call ?_ | refine callC_kw (enter_callW ?_) | refine enter_callW ?_ | w_how
    w_top on
    try refine codeAny_mono ?_ (fun _ _ g => GoodW.toG g)
    have K0 := below_caller (Top.heap T)
    w_call any ho hd hcd hD T F
    clear hd TA
    k_drop
    skip)
  rename (Top _ _ _ _ _ _) => T
  rename (Below _ _ _ _) => K0
  rename (Heap.IsList _ _ _) => hL
  rename (IntsAre _ _) => hI
  rename (Fr _ _ _ _) => F
  rename (News _ _ _ _) => N0
  rename (¬ ((63 : Nat) : Int) < _) => hcond
  rename (Obj.data _ = Data.cell (bindC _ _ _ (Str.ofString "_law_text"))) => d1
  rename (Obj.data _ = Data.cell (bindC _ _ _ (Str.ofString "_law_deck"))) => d2
  refine law_entry (w := w) (mg := mg) (mb := mb) ⟨KX, T.g, T.builtins⟩ T.b T.nolimit ⟨_, KX 1 _ (show (KK w.params).lookup 1 = some (boot_o_1 w.params) by kernel_rfl)⟩ K0 F ?_ N0 d1 d2 hL hI (by lia) fun h' tk' m' F' => ?_
  · kernel_rfl
  · exact goodW_bool F' hg (fun _ => rfl) (by kernel_rfl) rfl
end Mine
theorem PySem.Challenge.cw_np0053_01_holds : PySem.Challenge.rw_np0053_01.Holds :=
  Mine.holds_of Mine.walk
