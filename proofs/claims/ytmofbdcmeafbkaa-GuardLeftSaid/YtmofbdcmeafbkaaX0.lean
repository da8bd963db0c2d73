/- The symbolic values, chunks and heaps of the walk, what they denote, and the laws on the worlds that hold them. No condition. -/
import Derived.Orders
import Derived.Scope
import Derived.Below
import Derived.Laws.CopyRow
import Derived.Laws.Cells
import Derived.IntWalk
import Derived.Laws.AppendOwn
/- The symbolic values, chunks and heaps of the walk, what they denote, and the laws on the worlds that hold them. No condition. -/
set_option linter.unusedVariables false
namespace Go.Sx



/-- A symbolic value: as the model's, but addresses go by names. -/
inductive LV where
  | undef
  | bool (b : Bool)
  | int (k : IntKind) (n : Int)
  | str (s : ByteArray)
  | ptr (n : Nat) (o : Nat)
  | pe (n : Nat) (sz i j : Nat)
  | nilp
  | sl (n : Nat) (sz o len cap : Nat)
  | vec (n : Nat) (len : Nat)
  | nils
  | mp (n : Nat)
  | nilm
  | fn (f : FuncId) (first caps : List LV)
  | nilf
  | ifc (t : TypeId) (v : LV)
  | nili
  | agg (l : List LV)
  | tup (l : List LV)
  | nat (n : Nat)
  | opq (n : Nat)
  deriving Inhabited

/-- What a name stands for. -/
structure Bk where
  mk ::
  b : Nat
  o : Nat
  c : Nat
  v : Value
  deriving Inhabited

mutual
def den (ρ : Nat → Bk) : LV → Value
  | .undef => undef
  | .bool b => .bool b
  | .int k n => .int k n
  | .str s => .string s
  | .ptr n o => .pointer (some ⟨(ρ n).b, (ρ n).o + o, none⟩)
  | .pe n sz i j => .pointer (some ⟨(ρ n).b, (ρ n).o + (i * sz + j), none⟩)
  | .nilp => .pointer none
  | .sl n sz o len cap => .slice (some ⟨(ρ n).b, (ρ n).o + o * sz, none⟩) len cap
  | .vec n len => .slice (some ⟨(ρ n).b, (ρ n).o, none⟩) len (ρ n).c
  | .nils => .slice none 0 0
  | .mp n => .map (some (ρ n).b)
  | .nilm => .map none
  | .fn f first caps => .func (.func f) (denL ρ first).toArray (denL ρ caps).toArray
  | .nilf => .nilFunc
  | .ifc t v => .iface t (den ρ v)
  | .nili => .nilIface
  | .agg l => .agg (denL ρ l).toArray
  | .tup l => .tuple (denL ρ l).toArray
  | .nat n => .int .i64 (ρ n).c
  | .opq n => (ρ n).v
def denL (ρ : Nat → Bk) : List LV → List Value
  | [] => []
  | a :: l => den ρ a :: denL ρ l
end

mutual
def LV.ok (p : Nat → Bool) : LV → Bool
  | .ptr n _ | .pe n _ _ _ | .sl n _ _ _ _ | .vec n _ | .mp n | .nat n | .opq n => p n
  | .fn _ a b => okL p a && okL p b
  | .ifc _ v => LV.ok p v
  | .agg l | .tup l => okL p l
  | _ => true
def okL (p : Nat → Bool) : List LV → Bool
  | [] => true
  | a :: l => LV.ok p a && okL p l
end

mutual
def LV.ren (σ : Nat → Nat) : LV → LV
  | .ptr n o => .ptr (σ n) o
  | .pe n sz i j => .pe (σ n) sz i j
  | .sl n sz o len cap => .sl (σ n) sz o len cap
  | .vec n len => .vec (σ n) len
  | .mp n => .mp (σ n)
  | .nat n => .nat (σ n)
  | .opq n => .opq (σ n)
  | .fn f a b => .fn f (renL σ a) (renL σ b)
  | .ifc t v => .ifc t (LV.ren σ v)
  | .agg l => .agg (renL σ l)
  | .tup l => .tup (renL σ l)
  | .undef => .undef
  | .bool b => .bool b
  | .int k n => .int k n
  | .str s => .str s
  | .nilp => .nilp
  | .nils => .nils
  | .nilm => .nilm
  | .nilf => .nilf
  | .nili => .nili
def renL (σ : Nat → Nat) : List LV → List LV
  | [] => []
  | a :: l => LV.ren σ a :: renL σ l
end

theorem denL_eq (ρ : Nat → Bk) : ∀ l, denL ρ l = l.map (den ρ)
  | [] => rfl
  | a :: l => by simp [denL, denL_eq ρ l]
theorem okL_eq (p : Nat → Bool) : ∀ l, okL p l = l.all (LV.ok p)
  | [] => rfl
  | a :: l => by simp [okL, okL_eq p l]
theorem renL_eq (σ : Nat → Nat) : ∀ l, renL σ l = l.map (LV.ren σ)
  | [] => rfl
  | a :: l => by simp [renL, renL_eq σ l]

mutual
theorem den_ren (ρ : Nat → Bk) (σ : Nat → Nat) : ∀ v, den ρ (LV.ren σ v) = den (fun i => ρ (σ i)) v
  | .fn f a b => by simp [LV.ren, den, denL_ren ρ σ a, denL_ren ρ σ b]
  | .ifc t v => by simp [LV.ren, den, den_ren ρ σ v]
  | .agg l => by simp [LV.ren, den, denL_ren ρ σ l]
  | .tup l => by simp [LV.ren, den, denL_ren ρ σ l]
  | .ptr .. | .pe .. | .sl .. | .vec .. | .mp .. | .nat .. | .opq .. | .undef | .bool .. | .int .. | .str .. | .nilp | .nils | .nilm | .nilf | .nili => by simp [LV.ren, den]
theorem denL_ren (ρ : Nat → Bk) (σ : Nat → Nat) : ∀ l, denL ρ (renL σ l) = denL (fun i => ρ (σ i)) l
  | [] => rfl
  | a :: l => by simp [renL, denL, den_ren ρ σ a, denL_ren ρ σ l]
end

def lt (n : Nat) : Nat → Bool := fun i => decide (i < n)
theorem lt_iff {n i : Nat} : lt n i = true ↔ i < n := by simp [lt]
/-- One set of names within another. -/
def Sub (p q : Nat → Bool) : Prop := ∀ n, p n = true → q n = true
theorem Sub.refl (p : Nat → Bool) : Sub p p := fun _ h => h
theorem Sub.trans {p q r : Nat → Bool} (h : Sub p q) (h' : Sub q r) : Sub p r := fun n hn => h' n (h n hn)
theorem Sub.lt {n m : Nat} (h : n ≤ m) : Sub (Sx.lt n) (Sx.lt m) := fun i hi => lt_iff.2 (Nat.lt_of_lt_of_le (lt_iff.1 hi) h)

/-- The two agree on the names of a set. -/
def Agree (p : Nat → Bool) (ρ ρ' : Nat → Bk) : Prop := ∀ n, p n = true → ρ' n = ρ n
theorem Agree.refl (p : Nat → Bool) (ρ : Nat → Bk) : Agree p ρ ρ := fun _ _ => rfl
theorem Agree.trans {p q : Nat → Bool} {ρ ρ' ρ'' : Nat → Bk} (h : Agree p ρ ρ') (h' : Agree q ρ' ρ'') (hn : Sub p q) : Agree p ρ ρ'' :=
  fun n hl => (h' n (hn n hl)).trans (h n hl)
theorem Agree.mono {p q : Nat → Bool} {ρ ρ' : Nat → Bk} (h : Agree q ρ ρ') (hn : Sub p q) : Agree p ρ ρ' := fun n hl => h n (hn n hl)

mutual
theorem den_agree {p : Nat → Bool} {ρ ρ' : Nat → Bk} (h : Agree p ρ ρ') : ∀ v, LV.ok p v = true → den ρ' v = den ρ v
  | .fn f a b, hv => by
    simp only [LV.ok, Bool.and_eq_true] at hv
    simp [den, denL_agree h a hv.1, denL_agree h b hv.2]
  | .ifc t v, hv => by simp only [LV.ok] at hv; simp [den, den_agree h v hv]
  | .agg l, hv => by simp only [LV.ok] at hv; simp [den, denL_agree h l hv]
  | .tup l, hv => by simp only [LV.ok] at hv; simp [den, denL_agree h l hv]
  | .ptr n _, hv | .pe n _ _ _, hv | .sl n _ _ _ _, hv | .vec n _, hv | .mp n, hv | .nat n, hv | .opq n, hv => by
    simp only [LV.ok] at hv; simp [den, h n hv]
  | .undef, _ | .bool .., _ | .int .., _ | .str .., _ | .nilp, _ | .nils, _ | .nilm, _ | .nilf, _ | .nili, _ => by simp [den]
theorem denL_agree {p : Nat → Bool} {ρ ρ' : Nat → Bk} (h : Agree p ρ ρ') : ∀ l, okL p l = true → denL ρ' l = denL ρ l
  | [], _ => rfl
  | a :: l, hv => by
    simp only [okL, Bool.and_eq_true] at hv
    simp [denL, den_agree h a hv.1, denL_agree h l hv.2]
end

mutual
theorem LV.ok_mono {p q : Nat → Bool} (h : Sub p q) : ∀ v, LV.ok p v = true → LV.ok q v = true
  | .fn f a b, hv => by
    simp only [LV.ok, Bool.and_eq_true] at hv ⊢
    exact ⟨okL_mono h a hv.1, okL_mono h b hv.2⟩
  | .ifc t v, hv => by simp only [LV.ok] at hv ⊢; exact LV.ok_mono h v hv
  | .agg l, hv => by simp only [LV.ok] at hv ⊢; exact okL_mono h l hv
  | .tup l, hv => by simp only [LV.ok] at hv ⊢; exact okL_mono h l hv
  | .ptr n _, hv | .pe n _ _ _, hv | .sl n _ _ _ _, hv | .vec n _, hv | .mp n, hv | .nat n, hv | .opq n, hv => by
    simp only [LV.ok] at hv ⊢; exact h _ hv
  | .undef, _ | .bool .., _ | .int .., _ | .str .., _ | .nilp, _ | .nils, _ | .nilm, _ | .nilf, _ | .nili, _ => by simp [LV.ok]
theorem okL_mono {p q : Nat → Bool} (h : Sub p q) : ∀ l, okL p l = true → okL q l = true
  | [], _ => rfl
  | a :: l, hv => by
    simp only [okL, Bool.and_eq_true] at hv ⊢
    exact ⟨LV.ok_mono h a hv.1, okL_mono h l hv.2⟩
end

mutual
theorem LV.ok_ren {σ : Nat → Nat} {p q : Nat → Bool} (h : ∀ i, p i = true → q (σ i) = true) : ∀ v, LV.ok p v = true → LV.ok q (LV.ren σ v) = true
  | .fn f a b, hv => by
    simp only [LV.ok, LV.ren, Bool.and_eq_true] at hv ⊢
    exact ⟨okL_ren h a hv.1, okL_ren h b hv.2⟩
  | .ifc t v, hv => by simp only [LV.ok, LV.ren] at hv ⊢; exact LV.ok_ren h v hv
  | .agg l, hv => by simp only [LV.ok, LV.ren] at hv ⊢; exact okL_ren h l hv
  | .tup l, hv => by simp only [LV.ok, LV.ren] at hv ⊢; exact okL_ren h l hv
  | .ptr n _, hv | .pe n _ _ _, hv | .sl n _ _ _ _, hv | .vec n _, hv | .mp n, hv | .nat n, hv | .opq n, hv => by
    simp only [LV.ok, LV.ren] at hv ⊢; exact h _ hv
  | .undef, _ | .bool .., _ | .int .., _ | .str .., _ | .nilp, _ | .nils, _ | .nilm, _ | .nilf, _ | .nili, _ => by simp [LV.ok, LV.ren]
theorem okL_ren {σ : Nat → Nat} {p q : Nat → Bool} (h : ∀ i, p i = true → q (σ i) = true) : ∀ l, okL p l = true → okL q (renL σ l) = true
  | [], _ => rfl
  | a :: l, hv => by
    simp only [okL, renL, Bool.and_eq_true] at hv ⊢
    exact ⟨LV.ok_ren h a hv.1, okL_ren h l hv.2⟩
end

end Go.Sx

/- Chunks of memory, what they denote in a world's heap, and when a world holds a symbolic heap. No condition. -/
namespace Go.Sx

/-- Rows of a slice or an array. -/
inductive Rows where
  | ints (l : List Int)
  | bools (l : List Bool)
  | pairs (l : List (Int × Int))
  | lvs (sz : Nat) (l : List (List LV))
  deriving Inhabited

def Rows.size : Rows → Nat
  | .ints _ => 1
  | .bools _ => 1
  | .pairs _ => 2
  | .lvs sz _ => sz
def Rows.len : Rows → Nat
  | .ints l => l.length
  | .bools l => l.length
  | .pairs l => l.length
  | .lvs _ l => l.length
def Rows.cells : Rows → List LV
  | .ints l => l.map (.int .i64)
  | .bools l => l.map .bool
  | .pairs l => l.flatMap fun p => [.int .i64 p.1, .int .i64 p.2]
  | .lvs _ l => l.flatten
/-- The rows are of one width. -/
def Rows.wf : Rows → Bool
  | .lvs sz l => l.all fun r => r.length == sz
  | _ => true
def Rows.cell : Rows → Nat → Nat → LV
  | .ints l, i, _ => .int .i64 (l.getD i 0)
  | .bools l, i, _ => .bool (l.getD i false)
  | .pairs l, i, 0 => .int .i64 (l.getD i (0, 0)).1
  | .pairs l, i, _ + 1 => .int .i64 (l.getD i (0, 0)).2
  | .lvs _ l, i, j => (l.getD i []).getD j .undef
def Rows.setCell : Rows → Nat → Nat → LV → Option Rows
  | .ints l, i, _, .int .i64 x => some (.ints (l.set i x))
  | .bools l, i, _, .bool x => some (.bools (l.set i x))
  | .pairs l, i, 0, .int .i64 x => some (.pairs (l.set i (x, (l.getD i (0, 0)).2)))
  | .pairs l, i, 1, .int .i64 x => some (.pairs (l.set i ((l.getD i (0, 0)).1, x)))
  | .lvs sz l, i, j, v => some (.lvs sz (l.set i ((l.getD i []).set j v)))
  | _, _, _, _ => none
/-- One row more. -/
def Rows.push : Rows → List LV → Option Rows
  | .ints l, [.int .i64 x] => some (.ints (l ++ [x]))
  | .bools l, [.bool x] => some (.bools (l ++ [x]))
  | .pairs l, [.int .i64 x, .int .i64 y] => some (.pairs (l ++ [(x, y)]))
  | .lvs sz l, r => if r.length == sz then some (.lvs sz (l ++ [r])) else none
  | _, _ => none
def Rows.append : Rows → Rows → Option Rows
  | .ints l, .ints r => some (.ints (l ++ r))
  | .bools l, .bools r => some (.bools (l ++ r))
  | .pairs l, .pairs r => some (.pairs (l ++ r))
  | .lvs sz l, .lvs sz' r => if sz == sz' then some (.lvs sz (l ++ r)) else none
  | _, _ => none
def Rows.drop (k : Nat) : Rows → Rows
  | .ints l => .ints (l.drop k)
  | .bools l => .bools (l.drop k)
  | .pairs l => .pairs (l.drop k)
  | .lvs sz l => .lvs sz (l.drop k)
def Rows.take (k : Nat) : Rows → Rows
  | .ints l => .ints (l.take k)
  | .bools l => .bools (l.take k)
  | .pairs l => .pairs (l.take k)
  | .lvs sz l => .lvs sz (l.take k)
def Rows.ok (p : Nat → Bool) : Rows → Bool
  | .lvs _ l => l.all fun r => okL p r
  | _ => true
def Rows.ren (σ : Nat → Nat) : Rows → Rows
  | .lvs sz l => .lvs sz (l.map (renL σ))
  | r => r

/-- What a map holds at each key (the zero value where it holds nothing). -/
inductive Mv where
  | bools (f : Int → Bool)
  | ints (f : Int → Int)
  | pairs (f : Int → Int × Int)

def Mv.at : Mv → Int → LV
  | .bools f, k => .bool (f k)
  | .ints f, k => .int .i64 (f k)
  | .pairs f, k => .agg [.int .i64 (f k).1, .int .i64 (f k).2]
def upf {α : Type} (f : Int → α) (k : Int) (v : α) : Int → α := fun x => if x = k then v else f x
def Mv.put : Mv → Int → LV → Option Mv
  | .bools f, k, .bool x => some (.bools (upf f k x))
  | .ints f, k, .int .i64 x => some (.ints (upf f k x))
  | .pairs f, k, .agg [.int .i64 x, .int .i64 y] => some (.pairs (upf f k (x, y)))
  | _, _, _ => none
def Mv.zero : Mv → LV
  | .bools _ => .bool false
  | .ints _ => .int .i64 0
  | .pairs _ => .agg [.int .i64 0, .int .i64 0]
def Mv.clear : Mv → Mv
  | .bools _ => .bools fun _ => false
  | .ints _ => .ints fun _ => 0
  | .pairs _ => .pairs fun _ => (0, 0)

/-- A chunk: what a name owns. -/
inductive LO (A : Type) where
  | cells (l : List LV) (t : TypeId)
  | arr (r : Rows) (t : TypeId)
  | vec (r : Rows) (t : TypeId)
  /-- a slice of pointers to things; 'hole': the first one's thing lies by itself under that name -/
  | avec (l : List A) (t : TypeId) (hole : Option Nat)
  | roI (l : List Int)
  | roB (l : List Bool)
  /-- 'pend': a key whose entry is there, and the name of its stamp -/
  | map (m : Mv) (pend : Option (Int × Nat))
  | gmap (f : Int → List (Int × Int)) (t : TypeId) (hole : Option (Int × Nat))
  | abs (a : A) (imps : List Nat)

def LO.ok {A : Type} (p : Nat → Bool) : LO A → Bool
  | .cells l _ => okL p l
  | .arr r _ | .vec r _ => r.ok p
  | .avec _ _ h => match h with | some n => p n | none => true
  | .roI _ | .roB _ => true
  | .map _ h => match h with | some (_, n) => p n | none => true
  | .gmap _ _ h => match h with | some (_, n) => p n | none => true
  | .abs _ l => l.all fun n => p n

def LO.ren {A : Type} (σ : Nat → Nat) : LO A → LO A
  | .cells l t => .cells (renL σ l) t
  | .arr r t => .arr (r.ren σ) t
  | .vec r t => .vec (r.ren σ) t
  | .avec l t h => .avec l t (h.map σ)
  | .roI l => .roI l
  | .roB l => .roB l
  | .map m p => .map m (p.map fun x => (x.1, σ x.2))
  | .gmap f t h => .gmap f t (h.map fun x => (x.1, σ x.2))
  | .abs a l => .abs a (l.map σ)

abbrev Hp := Nat → Option Obj
def Hp.one (b : Nat) (o : Obj) : Hp := fun x => if x = b then some o else none
def Hp.none : Hp := fun _ => Option.none

theorem Hp.one_some {b x : Nat} {o o' : Obj} (h : Hp.one b o x = some o') : x = b ∧ o' = o := by
  unfold Hp.one at h
  split at h
  · rename_i e; exact ⟨e, (Option.some.inj h).symm⟩
  · cases h
theorem Hp.one_ne {b x : Nat} {o : Obj} (h : Hp.one b o x ≠ Option.none) : x = b := by
  unfold Hp.one at h
  split at h
  · assumption
  · exact absurd rfl h
@[simp] theorem Hp.one_self (b : Nat) (o : Obj) : Hp.one b o b = some o := by simp [Hp.one]

/-- What the walk leaves alone: a world to begin with, and a part of the heap. -/
structure Amb where
  w0 : World
  O : Hp
  /-- of that, what may be read -/
  R : Hp

/-- The part is the parts' union, and no two of them meet. -/
structure Union {ι : Type} (pt : ι → Hp) (p : Hp) : Prop where
  to : ∀ b o, p b = some o → ∃ i, pt i b = some o
  of : ∀ i b o, pt i b = some o → p b = some o
  apart : ∀ i j b, i ≠ j → pt i b ≠ none → pt j b = none

/-- A map's entries hold f, keys and stamps once each. -/
structure MapOk (es : Array MapEntry) (clock : Nat) (f : Int → Value) (zero : Value) : Prop where
  keys : ∀ (i : Nat) (e : MapEntry), es[i]? = some e → ∃ k, e.key = .int .i64 k ∧ e.val = f k
  once : ∀ (i j : Nat) (e e' : MapEntry), es[i]? = some e → es[j]? = some e' → e.key = e'.key → i = j
  born : ∀ (i : Nat) (e : MapEntry), es[i]? = some e → e.born < clock
  stamps : ∀ (i j : Nat) (e e' : MapEntry), es[i]? = some e → es[j]? = some e' → e.born = e'.born → i = j
  miss : ∀ k, (∀ (i : Nat) (e : MapEntry), es[i]? = some e → e.key ≠ .int .i64 k) → f k = zero

section
variable {A : Type} (body : A → List (Option (LO A))) (R : Hp) (amb : Amb)

/-- What a chunk denotes: which part of the heap it is. -/
inductive Den : (Nat → Bk) → Nat → LO A → Hp → Prop where
  | cells {ρ : Nat → Bk} {n : Nat} {l : List LV} {t : TypeId} (ho : (ρ n).o = 0) :
      Den ρ n (.cells l t) (Hp.one (ρ n).b (.cells (l.map (den ρ)).toArray t))
  | arr {ρ : Nat → Bk} {n : Nat} {r : Rows} {t : TypeId} (ho : (ρ n).o = 0) (hw : r.wf = true) :
      Den ρ n (.arr r t) (Hp.one (ρ n).b (.cells (r.cells.map (den ρ)).toArray t))
  | vec {ρ : Nat → Bk} {n : Nat} {r : Rows} {t : TypeId} (pre post : List Value) (ho : (ρ n).o = pre.length) (hw : r.wf = true)
      (hc : (ρ n).c * r.size ≤ post.length + r.len * r.size) (hl : r.len ≤ (ρ n).c) :
      Den ρ n (.vec r t) (Hp.one (ρ n).b (.cells (pre ++ (r.cells.map (den ρ) ++ post)).toArray t))
  | avec {ρ : Nat → Bk} {n : Nat} {l : List A} {t : TypeId} {hole : Option Nat} (pre post : List Value) (ho : (ρ n).o = pre.length)
      (hc : l.length ≤ (ρ n).c ∧ (ρ n).c ≤ l.length + post.length) (ρs : Nat → Nat → Bk) (pt : Nat → Hp) (p : Hp)
      (hpt : ∀ i a, l[i]? = some a → (i = 0 → hole = Option.none) → Den (ρs i) 0 (.abs a []) (pt i))
      (hz : ∀ i, (l.length ≤ i ∨ (i = 0 ∧ hole ≠ Option.none)) → ∀ b, pt i b = Option.none)
      (hh : ∀ m, hole = some m → 0 < l.length ∧ (ρs 0 0).b = (ρ m).b ∧ (ρs 0 0).o = (ρ m).o)
      (hob : ∀ i, (ρs i 0).o = 0)
      (hu : Union (fun i => if i = 0 then Hp.one (ρ n).b (.cells (pre ++ ((List.range l.length).map (fun i => Value.pointer (some ⟨(ρs i 0).b, 0, Option.none⟩)) ++ post)).toArray t) else pt (i - 1)) p) :
      Den ρ n (.avec l t hole) p
  | roI {ρ : Nat → Bk} {n : Nat} {l : List Int} (h : l = [] ∨ ∃ cs t fz, R (ρ n).b = some (.cells cs t fz) ∧ ∀ (i : Nat) x, l[i]? = some x → cs[(ρ n).o + i]? = some (.int .i64 x)) :
      Den ρ n (.roI l) Hp.none
  | roB {ρ : Nat → Bk} {n : Nat} {l : List Bool} (h : l = [] ∨ ∃ cs t fz, R (ρ n).b = some (.cells cs t fz) ∧ ∀ (i : Nat) x, l[i]? = some x → cs[(ρ n).o + i]? = some (.bool x)) :
      Den ρ n (.roB l) Hp.none
  | map {ρ : Nat → Bk} {n : Nat} {m : Mv} {pend : Option (Int × Nat)} (es : Array MapEntry) (clock : Nat)
      (hm : MapOk es clock (fun k => den ρ (m.at k)) (den ρ m.zero))
      (hp : ∀ k s, pend = some (k, s) → ∃ (i : Nat) (e : MapEntry), es[i]? = some e ∧ e.key = .int .i64 k ∧ e.born = (ρ s).c) :
      Den ρ n (.map m pend) (Hp.one (ρ n).b (.map es clock))
  | gmap {ρ : Nat → Bk} {n : Nat} {f : Int → List (Int × Int)} {t : TypeId} {hole : Option (Int × Nat)} (es : Array MapEntry) (clock : Nat)
      (bs : Int → Bk) (pt : Int → Hp) (p : Hp)
      (hm : MapOk es clock (fun k => if f k = [] then .slice Option.none 0 0 else .slice (some ⟨(bs k).b, (bs k).o, Option.none⟩) (f k).length (bs k).c) (.slice Option.none 0 0))
      (hpt : ∀ k, f k ≠ [] → (∀ m, hole ≠ some (k, m)) → Den (fun _ => bs k) 0 (.vec (.pairs (f k)) t) (pt k))
      (hz : ∀ k, (f k = [] ∨ ∃ m, hole = some (k, m)) → ∀ b, pt k b = Option.none)
      (hh : ∀ k m, hole = some (k, m) → f k ≠ [] ∧ (bs k).b = (ρ m).b ∧ (bs k).o = (ρ m).o ∧ (bs k).c = (ρ m).c)
      (hu : Union (fun i : Option Int => match i with | Option.none => Hp.one (ρ n).b (.map es clock) | some k => pt k) p) :
      Den ρ n (.gmap f t hole) p
  | abs {ρ ρ' : Nat → Bk} {n : Nat} {a : A} {imps : List Nat} (h0 : ρ' 0 = ρ n) (ho : (ρ n).o = 0)
      (himp : ∀ (k i x : Nat), (((body a).zipIdx.filter fun c => c.1.isNone).map (·.2))[k]? = some i → imps[k]? = some x → ρ' i = ρ x)
      (pt : Nat → Hp) (p : Hp)
      (hok : ∀ (i : Nat) (c : LO A), (body a)[i]? = some (some c) → LO.ok (lt (body a).length) c = true)
      (hpt : ∀ (i : Nat) (c : LO A), (body a)[i]? = some (some c) → Den ρ' i c (pt i))
      (hz : ∀ (i : Nat), (∀ (c : LO A), (body a)[i]? ≠ some (some c)) → ∀ b, pt i b = Option.none)
      (hu : Union pt p) :
      Den ρ n (.abs a imps) p

/-- The world holds the symbolic heap. -/
structure SatP (H : Nat → Option (LO A)) (p : Nat → Bool) (ρ : Nat → Bk) (w : World) (pt : Nat → Hp) : Prop where
  den : ∀ n c, H n = some c → p n = true ∧ LO.ok p c = true ∧ Den body amb.R ρ n c (pt n)
  empty : ∀ n, H n = none → ∀ b, pt n b = none
  apart : ∀ n m b, n ≠ m → pt n b ≠ none → pt m b = none
  out : ∀ n b, pt n b ≠ none → amb.O b = none
  heap : ∀ n b o, pt n b = some o → w.heap[b]? = some o
  old : ∀ b o, amb.O b = some o → w.heap[b]? = some o
  ro : ∀ b o, amb.R b = some o → amb.O b = some o
  env : w.os = amb.w0.os ∧ w.tape = amb.w0.tape ∧ w.output = amb.w0.output

def Sat (H : Nat → Option (LO A)) (p : Nat → Bool) (ρ : Nat → Bk) (w : World) : Prop := ∃ pt, SatP body amb H p ρ w pt
end
end Go.Sx

/- Laws on symbolic heaps: a chunk goes on denoting what it did under names that agree; one chunk turns, comes or goes. No condition. -/
namespace Go.Sx

theorem map_den_agree {p : Nat → Bool} {ρ ρ' : Nat → Bk} (h : Agree p ρ ρ') {l : List LV} (hl : okL p l = true) : l.map (den ρ') = l.map (den ρ) := by
  rw [← denL_eq, ← denL_eq, denL_agree h l hl]

theorem Rows.ok_cells {p : Nat → Bool} : ∀ {r : Rows}, r.ok p = true → okL p r.cells = true
  | .ints l, _ => by simp [okL_eq, Rows.cells, LV.ok]
  | .bools l, _ => by simp [okL_eq, Rows.cells, LV.ok]
  | .pairs l, _ => by
    rw [okL_eq, List.all_eq_true]
    intro x hx
    simp only [Rows.cells, List.mem_flatMap] at hx
    obtain ⟨p, _, hx⟩ := hx
    simp at hx
    rcases hx with rfl | rfl <;> rfl
  | .lvs sz l, h => by
    rw [okL_eq, List.all_eq_true]
    intro x hx
    simp only [Rows.cells, List.mem_flatten] at hx
    obtain ⟨r, hr, hx⟩ := hx
    simp only [Rows.ok, List.all_eq_true] at h
    have := h r hr
    rw [okL_eq, List.all_eq_true] at this
    exact this x hx

theorem Rows.map_cells_agree {p : Nat → Bool} {ρ ρ' : Nat → Bk} (h : Agree p ρ ρ') {r : Rows} (hr : r.ok p = true) : r.cells.map (den ρ') = r.cells.map (den ρ) :=
  map_den_agree h (Rows.ok_cells hr)

theorem Mv.den_at (m : Mv) (ρ ρ' : Nat → Bk) (k : Int) : den ρ' (m.at k) = den ρ (m.at k) := by
  cases m <;> simp [Mv.at, den, denL]
theorem Mv.den_zero (m : Mv) (ρ ρ' : Nat → Bk) : den ρ' m.zero = den ρ m.zero := by
  cases m <;> simp [Mv.zero, den, denL]

section
variable {A : Type} {body : A → List (Option (LO A))} {R : Hp} {amb : Amb}

theorem Den.agree {q : Nat → Bool} {ρ ρ' : Nat → Bk} {n : Nat} {c : LO A} {p : Hp} (h : Agree q ρ ρ') (hn : q n = true) (hc : LO.ok q c = true)
    (hd : Den body R ρ n c p) : Den body R ρ' n c p := by
  have e : ρ' n = ρ n := h n hn
  cases hd with
  | @cells _ _ l t ho =>
    have e1 := map_den_agree h (l := l) hc
    have := Den.cells (body := body) (R := R) (ρ := ρ') (n := n) (l := l) (t := t) (by rw [e]; exact ho)
    rw [e, e1] at this
    exact this
  | @arr _ _ r t ho hw =>
    have e1 := Rows.map_cells_agree h (r := r) hc
    have := Den.arr (body := body) (R := R) (ρ := ρ') (n := n) (r := r) (t := t) (by rw [e]; exact ho) hw
    rw [e, e1] at this
    exact this
  | @vec _ _ r t pre post ho hw hcap hl =>
    have e1 := Rows.map_cells_agree h (r := r) hc
    have := Den.vec (body := body) (R := R) (ρ := ρ') (n := n) (r := r) (t := t) pre post (by rw [e]; exact ho) hw (by rw [e]; exact hcap) (by rw [e]; exact hl)
    rw [e, e1] at this
    exact this
  | avec pre post ho hcap ρs pt p hpt hz hh hob hu =>
    refine Den.avec pre post (by rw [e]; exact ho) (by rw [e]; exact hcap) ρs pt p hpt hz ?_ hob (by rw [e]; exact hu)
    rintro m rfl
    simp only [LO.ok] at hc
    rw [h m hc]
    exact hh m rfl
  | roI h' => exact Den.roI (by rw [e]; exact h')
  | roB h' => exact Den.roB (by rw [e]; exact h')
  | @map _ _ m pend es clock hm hp =>
    have := Den.map (body := body) (R := R) (ρ := ρ') (n := n) (m := m) (pend := pend) es clock (by simpa only [Mv.den_at m ρ ρ', Mv.den_zero m ρ ρ'] using hm)
      (by
        rintro k s rfl
        simp only [LO.ok] at hc
        rw [h s hc]
        exact hp k s rfl)
    rw [e] at this
    exact this
  | gmap es clock bs pt p hm hpt hz hh hu =>
    refine Den.gmap es clock bs pt p hm hpt hz ?_ (by rw [e]; exact hu)
    rintro k m rfl
    simp only [LO.ok] at hc
    rw [h m hc]
    exact hh k m rfl
  | abs h0 ho himp pt p hok hpt hz hu =>
    refine Den.abs (by rw [e]; exact h0) (by rw [e]; exact ho) ?_ pt p hok hpt hz hu
    intro k i x hi hx
    simp only [LO.ok, List.all_eq_true] at hc
    rw [h x (hc x (List.mem_of_getElem? hx))]
    exact himp k i x hi hx

theorem Rows.ok_mono {p q : Nat → Bool} (h : Sub p q) : ∀ {r : Rows}, r.ok p = true → r.ok q = true
  | .ints _, _ | .bools _, _ | .pairs _, _ => rfl
  | .lvs sz l, hc => by
    simp only [Rows.ok, List.all_eq_true] at hc ⊢
    exact fun x hx => okL_mono h x (hc x hx)

theorem LO.ok_mono {p q : Nat → Bool} (h : Sub p q) : ∀ {c : LO A}, LO.ok p c = true → LO.ok q c = true
  | .cells l t, hc => okL_mono h l hc
  | .arr r t, hc | .vec r t, hc => Rows.ok_mono h hc
  | .avec _ _ none, hc | .roI _, hc | .roB _, hc | .map _ none, hc | .gmap _ _ none, hc => rfl
  | .avec _ _ (some n), hc | .map _ (some (_, n)), hc | .gmap _ _ (some (_, n)), hc => by
    simp only [LO.ok] at hc ⊢; exact h _ hc
  | .abs a l, hc => by
    simp only [LO.ok, List.all_eq_true] at hc ⊢
    exact fun x hx => h _ (hc x hx)

def upd {α : Type} (H : Nat → Option α) (n : Nat) (c : Option α) : Nat → Option α := fun x => if x = n then c else H x

theorem upd_same {α : Type} (H : Nat → Option α) (n : Nat) (c : Option α) : upd H n c n = c := by simp [upd]
theorem upd_other {α : Type} (H : Nat → Option α) {n x : Nat} (c : Option α) (h : x ≠ n) : upd H n c x = H x := by simp [upd, h]

/-- The part of the heap at a name turns to another one (in its own blocks, or new ones); the world turns there alone. -/
theorem SatP.put {H : Nat → Option (LO A)} {q q' : Nat → Bool} {ρ ρ' : Nat → Bk} {w w' : World} {pt : Nat → Hp} (hs : SatP body amb H q ρ w pt) (n : Nat) (p' : Hp) (c' : Option (LO A))
    (hag : Agree q ρ ρ') (hnx : Sub q q')
    (hden : ∀ c, c' = some c → q' n = true ∧ LO.ok q' c = true ∧ Den body amb.R ρ' n c p') (hemp : c' = none → ∀ b, p' b = none)
    (hdom : ∀ b, p' b ≠ none → pt n b ≠ none ∨ ((∀ m, pt m b = none) ∧ amb.O b = none))
    (hin : ∀ b o, p' b = some o → w'.heap[b]? = some o)
    (hkeep : ∀ b o, pt n b = none → w.heap[b]? = some o → w'.heap[b]? = some o)
    (henv : w'.os = w.os ∧ w'.tape = w.tape ∧ w'.output = w.output) :
    SatP body amb (upd H n c') q' ρ' w' (fun x => if x = n then p' else pt x) := by
  have hfresh : ∀ m b, m ≠ n → pt m b ≠ none → p' b = none := by
    intro m b hm hb
    cases hp : p' b with
    | none => rfl
    | some o =>
      rcases hdom b (by simp [hp]) with h | h
      · exact absurd (hs.apart n m b (fun e => hm e.symm) h) hb
      · exact absurd (h.1 m) hb
  constructor
  · intro x c hx
    by_cases e : x = n
    · subst e
      rw [upd_same] at hx
      simpa using hden c hx
    · rw [upd_other _ _ e] at hx
      obtain ⟨h1, h2, h3⟩ := hs.den x c hx
      simp only [if_neg e]
      exact ⟨hnx _ h1, LO.ok_mono hnx h2, Den.agree hag h1 h2 h3⟩
  · intro x hx b
    by_cases e : x = n
    · subst e
      rw [upd_same] at hx
      simpa using hemp hx b
    · rw [upd_other _ _ e] at hx
      simpa only [if_neg e] using hs.empty x hx b
  · intro x y b hxy hx
    by_cases e : x = n
    · have ey : y ≠ n := fun h => hxy (e.trans h.symm)
      simp only [if_pos e] at hx
      simp only [if_neg ey]
      cases hq : pt y b with
      | none => rfl
      | some o => exact absurd (hfresh y b ey (by simp [hq])) hx
    · simp only [if_neg e] at hx
      by_cases ey : y = n
      · simp only [if_pos ey]; exact hfresh x b e hx
      · simp only [if_neg ey]; exact hs.apart x y b hxy hx
  · intro x b hx
    by_cases e : x = n
    · simp only [if_pos e] at hx
      rcases hdom b hx with h | h
      · exact hs.out n b h
      · exact h.2
    · simp only [if_neg e] at hx; exact hs.out x b hx
  · intro x b o hx
    by_cases e : x = n
    · simp only [if_pos e] at hx; exact hin b o hx
    · simp only [if_neg e] at hx
      refine hkeep b o ?_ (hs.heap x b o hx)
      exact hs.apart x n b e (by simp [hx])
  · intro b o ho
    refine hkeep b o ?_ (hs.old b o ho)
    cases hq : pt n b with
    | none => rfl
    | some o' => have := hs.out n b (by simp [hq]); rw [ho] at this; cases this
  · exact hs.ro
  · obtain ⟨h1, h2, h3⟩ := hs.env
    obtain ⟨g1, g2, g3⟩ := henv
    exact ⟨g1.trans h1, g2.trans h2, g3.trans h3⟩

theorem SatP.fresh {H : Nat → Option (LO A)} {q : Nat → Bool} {ρ : Nat → Bk} {w : World} {pt : Nat → Hp} (hs : SatP body amb H q ρ w pt) {b : Nat} (h : w.heap[b]? = none) :
    (∀ m, pt m b = none) ∧ amb.O b = none := by
  refine ⟨fun m => ?_, ?_⟩
  · cases hq : pt m b with
    | none => rfl
    | some o => have := hs.heap m b o hq; rw [h] at this; cases this
  · cases ho : amb.O b with
    | none => rfl
    | some o => have := hs.old b o ho; rw [h] at this; cases this

theorem upd_none_self {α : Type} {H : Nat → Option α} {n : Nat} (h : H n = none) : upd H n none = H := by
  funext x
  unfold upd
  split
  · rename_i e; rw [e, h]
  · rfl

/-- A name is let go. -/
theorem SatP.drop {H : Nat → Option (LO A)} {q : Nat → Bool} {ρ : Nat → Bk} {w : World} {pt : Nat → Hp} (hs : SatP body amb H q ρ w pt) (n : Nat) :
    SatP body amb (upd H n none) q ρ w (fun x => if x = n then Hp.none else pt x) :=
  hs.put n Hp.none none (Agree.refl _ _) (Sub.refl _) (fun _ h => by cases h) (fun _ _ => rfl) (fun b h => absurd rfl h) (fun b o h => by cases h) (fun _ _ _ h => h) ⟨rfl, rfl, rfl⟩

/-- More names may be meant; the world may have drawn. -/
theorem SatP.more {H : Nat → Option (LO A)} {q q' : Nat → Bool} {ρ ρ' : Nat → Bk} {w w' : World} {pt : Nat → Hp} (hs : SatP body amb H q ρ w pt) (hag : Agree q ρ ρ') (hnx : Sub q q')
    (hh : w'.heap = w.heap) (henv : w'.os = w.os ∧ w'.tape = w.tape ∧ w'.output = w.output) : SatP body amb H q' ρ' w' pt := by
  constructor
  · intro n c h
    obtain ⟨h1, h2, h3⟩ := hs.den n c h
    exact ⟨hnx _ h1, LO.ok_mono hnx h2, Den.agree hag h1 h2 h3⟩
  · exact hs.empty
  · exact hs.apart
  · exact hs.out
  · rw [hh]; exact hs.heap
  · rw [hh]; exact hs.old
  · exact hs.ro
  · obtain ⟨h1, h2, h3⟩ := hs.env
    obtain ⟨g1, g2, g3⟩ := henv
    exact ⟨g1.trans h1, g2.trans h2, g3.trans h3⟩

end
end Go.Sx

/- A part of a symbolic heap goes to a call under names of its own, and comes back. No condition. -/
set_option linter.unusedVariables false
namespace Go.Sx

section
variable {A : Type} {body : A → List (Option (LO A))}

variable {R : Hp}

theorem Rows.map_ren (ρ : Nat → Bk) (σ : Nat → Nat) : ∀ r : Rows, (r.ren σ).cells.map (den ρ) = r.cells.map (den (fun i => ρ (σ i)))
  | .ints l => by simp [Rows.ren, Rows.cells, den]
  | .bools l => by simp [Rows.ren, Rows.cells, den]
  | .pairs l => by simp [Rows.ren, Rows.cells, den, List.map_flatMap]
  | .lvs sz l => by
    simp only [Rows.ren, Rows.cells, List.map_flatten, List.map_map]
    congr 1
    apply List.map_congr_left
    intro x _
    simp only [Function.comp]
    rw [← denL_eq, ← denL_eq, denL_ren]
theorem Rows.wf_ren (σ : Nat → Nat) : ∀ r : Rows, (r.ren σ).wf = r.wf
  | .ints l | .bools l | .pairs l => rfl
  | .lvs sz l => by simp [Rows.ren, Rows.wf, renL_eq, Function.comp_def]
theorem Rows.len_ren (σ : Nat → Nat) : ∀ r : Rows, (r.ren σ).len = r.len
  | .ints l | .bools l | .pairs l => rfl
  | .lvs sz l => by simp [Rows.ren, Rows.len]
theorem Rows.size_ren (σ : Nat → Nat) : ∀ r : Rows, (r.ren σ).size = r.size
  | .ints l | .bools l | .pairs l => rfl
  | .lvs sz l => rfl

theorem Mv.den_at' (m : Mv) (ρ ρ' : Nat → Bk) (k : Int) : den ρ' (m.at k) = den ρ (m.at k) := Mv.den_at m ρ ρ' k

/-- Under other names: the names' meanings taken along. -/
theorem Den.ren {ρ : Nat → Bk} {σ : Nat → Nat} {n : Nat} {c : LO A} {p : Hp} (hd : Den body R (fun i => ρ (σ i)) n c p) : Den body R ρ (σ n) (c.ren σ) p := by
  cases hd with
  | @cells _ _ l t ho =>
    have := Den.cells (body := body) (R := R) (ρ := ρ) (n := σ n) (l := renL σ l) (t := t) ho
    rwa [show (renL σ l).map (den ρ) = l.map (den (fun i => ρ (σ i))) from by rw [← denL_eq, ← denL_eq, denL_ren]] at this
  | @arr _ _ r t ho hw =>
    have := Den.arr (body := body) (R := R) (ρ := ρ) (n := σ n) (r := r.ren σ) (t := t) ho (by rw [Rows.wf_ren]; exact hw)
    rwa [Rows.map_ren] at this
  | @vec _ _ r t pre post ho hw hcap hl =>
    have := Den.vec (body := body) (R := R) (ρ := ρ) (n := σ n) (r := r.ren σ) (t := t) pre post ho (by rw [Rows.wf_ren]; exact hw)
      (by rw [Rows.len_ren, Rows.size_ren]; exact hcap) (by rw [Rows.len_ren]; exact hl)
    rwa [Rows.map_ren] at this
  | avec pre post ho hcap ρs pt p hpt hz hh hob hu =>
    refine Den.avec pre post ho hcap ρs pt p ?_ ?_ ?_ hob hu
    · intro i a h h'; exact hpt i a h fun e => by simpa using h' e
    · intro i h; exact hz i (h.imp id fun h => ⟨h.1, by simpa using h.2⟩)
    · intro m h
      simp only [Option.map_eq_some_iff] at h
      obtain ⟨m', hm', rfl⟩ := h
      exact hh m' hm'
  | roI h' => exact Den.roI h'
  | roB h' => exact Den.roB h'
  | @map _ _ m pend es clock hm hp =>
    refine Den.map (body := body) (R := R) (ρ := ρ) (n := σ n) (m := m) es clock (by simpa only [Mv.den_at m (fun i => ρ (σ i)) ρ, Mv.den_zero m (fun i => ρ (σ i)) ρ] using hm) ?_
    intro k s h
    simp only [Option.map_eq_some_iff, Prod.mk.injEq] at h
    obtain ⟨⟨k', s'⟩, h1, rfl, rfl⟩ := h
    exact hp k' s' h1
  | gmap es clock bs pt p hm hpt hz hh hu =>
    refine Den.gmap es clock bs pt p hm ?_ ?_ ?_ hu
    · intro k hk h
      refine hpt k hk fun m e => h (σ m) ?_
      simp [e]
    · intro k h
      refine hz k (h.imp id fun ⟨m, h⟩ => ?_)
      simp only [Option.map_eq_some_iff, Prod.mk.injEq] at h
      obtain ⟨⟨k', s'⟩, h1, rfl, rfl⟩ := h
      exact ⟨s', h1⟩
    · intro k m h
      simp only [Option.map_eq_some_iff, Prod.mk.injEq] at h
      obtain ⟨⟨k', s'⟩, h1, rfl, rfl⟩ := h
      exact hh k' s' h1
  | abs h0 ho himp pt p hok hpt hz hu =>
    refine Den.abs h0 ho ?_ pt p hok hpt hz hu
    intro k i x hi hx
    simp only [List.getElem?_map, Option.map_eq_some_iff] at hx
    obtain ⟨y, hy, rfl⟩ := hx
    exact himp k i y hi hy

theorem Den.unren {ρ : Nat → Bk} {σ : Nat → Nat} {n : Nat} {c : LO A} {p : Hp} (hd : Den body R ρ (σ n) (c.ren σ) p) : Den body R (fun i => ρ (σ i)) n c p := by
  cases c with
  | cells l t =>
    generalize hc : LO.ren (A := A) σ (.cells l t) = c' at hd
    cases hd with
    | cells ho =>
      simp only [LO.ren] at hc
      cases hc
      have := Den.cells (body := body) (R := R) (ρ := fun i => ρ (σ i)) (n := n) (l := l) (t := t) ho
      rwa [show l.map (den (fun i => ρ (σ i))) = (renL σ l).map (den ρ) from by rw [← denL_eq, ← denL_eq, denL_ren]] at this
    | _ => simp only [LO.ren] at hc; cases hc
  | arr r t =>
    generalize hc : LO.ren (A := A) σ (.arr r t) = c' at hd
    cases hd with
    | arr ho hw =>
      simp only [LO.ren] at hc
      cases hc
      have := Den.arr (body := body) (R := R) (ρ := fun i => ρ (σ i)) (n := n) (r := r) (t := t) ho (by rw [Rows.wf_ren] at hw; exact hw)
      rwa [← Rows.map_ren] at this
    | _ => simp only [LO.ren] at hc; cases hc
  | vec r t =>
    generalize hc : LO.ren (A := A) σ (.vec r t) = c' at hd
    cases hd with
    | vec pre post ho hw hcap hl =>
      simp only [LO.ren] at hc
      cases hc
      have := Den.vec (body := body) (R := R) (ρ := fun i => ρ (σ i)) (n := n) (r := r) (t := t) pre post ho (by rw [Rows.wf_ren] at hw; exact hw)
        (by rw [Rows.len_ren, Rows.size_ren] at hcap; exact hcap) (by rw [Rows.len_ren] at hl; exact hl)
      rwa [← Rows.map_ren] at this
    | _ => simp only [LO.ren] at hc; cases hc
  | avec l t hole =>
    generalize hc : LO.ren (A := A) σ (.avec l t hole) = c' at hd
    cases hd with
    | avec pre post ho hcap ρs pt p hpt hz hh hob hu =>
      simp only [LO.ren] at hc
      cases hc
      refine Den.avec (ρ := fun i => ρ (σ i)) (n := n) pre post ho hcap ρs pt p ?_ ?_ ?_ hob hu
      · intro i a h h'; exact hpt i a h fun e => by simpa using h' e
      · intro i h; exact hz i (h.imp id fun h => ⟨h.1, by simpa using h.2⟩)
      · intro m h
        exact hh (σ m) (by simp [h])
    | _ => simp only [LO.ren] at hc; cases hc
  | roI l =>
    generalize hc : LO.ren (A := A) σ (.roI l) = c' at hd
    cases hd with
    | roI h' =>
      simp only [LO.ren] at hc
      cases hc
      exact Den.roI h'
    | _ => simp only [LO.ren] at hc; cases hc
  | roB l =>
    generalize hc : LO.ren (A := A) σ (.roB l) = c' at hd
    cases hd with
    | roB h' =>
      simp only [LO.ren] at hc
      cases hc
      exact Den.roB h'
    | _ => simp only [LO.ren] at hc; cases hc
  | map m pend =>
    generalize hc : LO.ren (A := A) σ (.map m pend) = c' at hd
    cases hd with
    | map es clock hm hp =>
      simp only [LO.ren] at hc
      cases hc
      refine Den.map (body := body) (R := R) (ρ := fun i => ρ (σ i)) (n := n) (m := m) es clock (by simpa only [Mv.den_at m (fun i => ρ (σ i)) ρ, Mv.den_zero m (fun i => ρ (σ i)) ρ] using hm) ?_
      intro k s h
      exact hp k (σ s) (by simp [h])
    | _ => simp only [LO.ren] at hc; cases hc
  | gmap f t hole =>
    generalize hc : LO.ren (A := A) σ (.gmap f t hole) = c' at hd
    cases hd with
    | gmap es clock bs pt p hm hpt hz hh hu =>
      simp only [LO.ren] at hc
      cases hc
      refine Den.gmap es clock bs pt p hm ?_ ?_ ?_ hu
      · intro k hk h
        refine hpt k hk fun m e => ?_
        simp only [Option.map_eq_some_iff, Prod.mk.injEq] at e
        obtain ⟨⟨k', s'⟩, h1, rfl, rfl⟩ := e
        exact h s' h1
      · intro k h
        refine hz k (h.imp id fun ⟨m, h⟩ => ⟨σ m, by simp [h]⟩)
      · intro k m h
        exact hh k (σ m) (by simp [h])
    | _ => simp only [LO.ren] at hc; cases hc
  | abs a imps =>
    generalize hc : LO.ren (A := A) σ (.abs a imps) = c' at hd
    cases hd with
    | abs h0 ho himp pt p hok hpt hz hu =>
      simp only [LO.ren] at hc
      cases hc
      refine Den.abs (ρ := fun i => ρ (σ i)) (n := n) h0 ho ?_ pt p hok hpt hz hu
      intro k i x hi hx
      exact himp k i (σ x) hi (by simp [hx])
    | _ => simp only [LO.ren] at hc; cases hc

theorem Rows.ok_ren {σ : Nat → Nat} {p q : Nat → Bool} (h : ∀ i, p i = true → q (σ i) = true) : ∀ {r : Rows}, r.ok p = true → (r.ren σ).ok q = true
  | .ints _, _ | .bools _, _ | .pairs _, _ => rfl
  | .lvs sz l, hc => by
    simp only [Rows.ok, Rows.ren, List.all_eq_true, List.mem_map] at hc ⊢
    rintro x ⟨y, hy, rfl⟩
    exact okL_ren h y (hc y hy)

theorem LO.ok_ren {σ : Nat → Nat} {p q : Nat → Bool} (h : ∀ i, p i = true → q (σ i) = true) : ∀ {c : LO A}, LO.ok p c = true → LO.ok q (c.ren σ) = true
  | .cells l t, hc => okL_ren h l hc
  | .arr r t, hc | .vec r t, hc => Rows.ok_ren h hc
  | .avec _ _ none, hc | .roI _, hc | .roB _, hc | .map _ none, hc | .gmap _ _ none, hc => rfl
  | .avec _ _ (some n), hc | .map _ (some (_, n)), hc | .gmap _ _ (some (_, n)), hc => by
    simp only [LO.ok, LO.ren, Option.map_some] at hc ⊢; exact h _ hc
  | .abs a l, hc => by
    simp only [LO.ok, LO.ren, List.all_eq_true, List.mem_map] at hc ⊢
    rintro x ⟨y, hy, rfl⟩
    exact h _ (hc y hy)

mutual
theorem LV.ren_congr {σ τ : Nat → Nat} {p : Nat → Bool} (h : ∀ i, p i = true → σ i = τ i) : ∀ v, LV.ok p v = true → LV.ren σ v = LV.ren τ v
  | .fn f a b, hv => by
    simp only [LV.ok, Bool.and_eq_true] at hv
    simp [LV.ren, renL_congr h a hv.1, renL_congr h b hv.2]
  | .ifc t v, hv => by simp only [LV.ok] at hv; simp [LV.ren, LV.ren_congr h v hv]
  | .agg l, hv => by simp only [LV.ok] at hv; simp [LV.ren, renL_congr h l hv]
  | .tup l, hv => by simp only [LV.ok] at hv; simp [LV.ren, renL_congr h l hv]
  | .ptr n _, hv | .pe n _ _ _, hv | .sl n _ _ _ _, hv | .vec n _, hv | .mp n, hv | .nat n, hv | .opq n, hv => by
    simp only [LV.ok] at hv; simp [LV.ren, h n hv]
  | .undef, _ | .bool .., _ | .int .., _ | .str .., _ | .nilp, _ | .nils, _ | .nilm, _ | .nilf, _ | .nili, _ => by simp [LV.ren]
theorem renL_congr {σ τ : Nat → Nat} {p : Nat → Bool} (h : ∀ i, p i = true → σ i = τ i) : ∀ l, okL p l = true → renL σ l = renL τ l
  | [], _ => rfl
  | a :: l, hv => by
    simp only [okL, Bool.and_eq_true] at hv
    simp [renL, LV.ren_congr h a hv.1, renL_congr h l hv.2]
end

theorem LO.ren_congr {σ τ : Nat → Nat} {p : Nat → Bool} (h : ∀ i, p i = true → σ i = τ i) : ∀ {c : LO A}, LO.ok p c = true → c.ren σ = c.ren τ
  | .cells l t, hc => by simp [LO.ren, renL_congr h l hc]
  | .arr (.lvs sz l) t, hc | .vec (.lvs sz l) t, hc => by
    simp only [LO.ok, Rows.ok, List.all_eq_true] at hc
    simp only [LO.ren, Rows.ren]
    congr 2
    exact List.map_congr_left fun x hx => renL_congr h x (hc x hx)
  | .arr (.ints _) t, hc | .arr (.bools _) t, hc | .arr (.pairs _) t, hc | .vec (.ints _) t, hc | .vec (.bools _) t, hc | .vec (.pairs _) t, hc => rfl
  | .avec _ _ none, hc | .roI _, hc | .roB _, hc | .map _ none, hc | .gmap _ _ none, hc => rfl
  | .avec _ _ (some n), hc | .map _ (some (_, n)), hc | .gmap _ _ (some (_, n)), hc => by
    simp only [LO.ok] at hc
    simp [LO.ren, h n hc]
  | .abs a l, hc => by
    simp only [LO.ok, List.all_eq_true] at hc
    simp only [LO.ren]
    congr 1
    exact List.map_congr_left fun x hx => h x (hc x hx)

end
end Go.Sx

/- A part of a symbolic heap goes out to a call and comes back; a thing is opened and shut. No condition. -/
set_option linter.unusedVariables false
namespace Go.Sx
open Classical in
theorem SatP.out_back {A : Type} {body : A → List (Option (LO A))} {amb : Amb} {H : Nat → Option (LO A)} {q : Nat → Bool} {ρ : Nat → Bk} {w : World} {pt : Nat → Hp}
    (hs : SatP body amb H q ρ w pt) (σ : Nat → Nat) (k nb : Nat) (cs : Nat → Option (LO A))
    (hσ : ∀ i, i < k → q (σ i) = true) (hinj : ∀ i j, i < k → j < k → σ i = σ j → i = j)
    (hcs : ∀ i, i < k → H (σ i) = (cs i).map (LO.ren σ)) (hcs' : ∀ i, k ≤ i → cs i = none) (hok : ∀ i c, cs i = some c → LO.ok (lt k) c = true) :
    ∃ amb' : Amb, Sat body amb' cs (lt k) (fun i => ρ (σ i)) w ∧
      ∀ {cs' : Nat → Option (LO A)} {k' : Nat} {ρ₀ : Nat → Bk} {w' : World}, Sat body amb' cs' (lt k') ρ₀ w' → Agree (lt k) (fun i => ρ (σ i)) ρ₀ → k ≤ k' →
        (∀ j, j < k' - k → q (nb + j) = false) → ∀ q', Sub q q' → (∀ j, j < k' - k → q' (nb + j) = true) →
        ∃ ρ', Agree q ρ ρ' ∧ (∀ i, i < k' → ρ' (if i < k then σ i else nb + (i - k)) = ρ₀ i) ∧
          ∀ H', (∀ i, i < k' → H' (if i < k then σ i else nb + (i - k)) = (cs' i).map (LO.ren fun i => if i < k then σ i else nb + (i - k))) →
            (∀ x, (∀ i, i < k' → (if i < k then σ i else nb + (i - k)) ≠ x) → H' x = H x) → Sat body amb H' q' ρ' w' := by
  let out : Nat → Prop := fun x => ∀ i, i < k → σ i ≠ x
  refine ⟨⟨amb.w0, fun b => match amb.O b with | some o => some o | none => if ∃ x, out x ∧ pt x b ≠ none then w.heap[b]? else none, amb.R⟩,
    ⟨fun i => if i < k then pt (σ i) else Hp.none, ?_⟩, ?_⟩
  · constructor
    · intro i c hi
      have hik : i < k := by
        rcases Nat.lt_or_ge i k with h | h
        · exact h
        · rw [hcs' i h] at hi; cases hi
      have h1 := hcs i hik
      rw [hi] at h1
      obtain ⟨_, _, h2⟩ := hs.den _ _ h1
      refine ⟨lt_iff.2 hik, hok i c hi, ?_⟩
      simp only [if_pos hik]
      exact Den.unren h2
    · intro i hi b
      by_cases hik : i < k
      · simp only [if_pos hik]
        exact hs.empty _ (by rw [hcs i hik, hi]; rfl) b
      · simp only [if_neg hik]; rfl
    · intro i j b hij hi
      by_cases hik : i < k
      · simp only [if_pos hik] at hi
        by_cases hjk : j < k
        · simp only [if_pos hjk]
          exact hs.apart _ _ b (fun e => hij (hinj i j hik hjk e)) hi
        · simp only [if_neg hjk]; rfl
      · simp only [if_neg hik] at hi; exact absurd rfl hi
    · intro i b hi
      by_cases hik : i < k
      · simp only [if_pos hik] at hi
        have h1 := hs.out _ b hi
        simp only [h1]
        rw [if_neg]
        rintro ⟨x, hx, hp⟩
        exact hp (hs.apart _ x b (hx i hik) hi)
      · simp only [if_neg hik] at hi; exact absurd rfl hi
    · intro i b o hi
      by_cases hik : i < k
      · simp only [if_pos hik] at hi; exact hs.heap _ b o hi
      · simp only [if_neg hik] at hi; cases hi
    · intro b o hb
      cases h1 : amb.O b with
      | some o' => simp only [h1] at hb; exact hs.old b o (h1.trans hb)
      | none =>
        simp only [h1] at hb
        split at hb
        · exact hb
        · cases hb
    · intro b o hb
      simp only [hs.ro b o hb]
    · exact hs.env
  · rintro cs' k' ρ₀ w' ⟨pt', hs'⟩ hag hk hfr q' hq hqn
    let τ : Nat → Nat := fun i => if i < k then σ i else nb + (i - k)
    have hτ : ∀ i, lt k' i = true → q' (τ i) = true := by
      intro i hi
      have hi := lt_iff.1 hi
      show q' (if i < k then σ i else nb + (i - k)) = true
      split
      · rename_i h; exact hq _ (hσ i h)
      · exact hqn _ (by omega)
    have hτinj : ∀ i j, τ i = τ j → i < k' → j < k' → i = j := by
      intro i j e hi hj
      have e' : (if i < k then σ i else nb + (i - k)) = (if j < k then σ j else nb + (j - k)) := e
      split at e' <;> split at e'
      · rename_i h1 h2; exact hinj i j h1 h2 e'
      · rename_i h1 h2; have := hσ i h1; rw [e', hfr _ (by omega)] at this; cases this
      · rename_i h1 h2; have := hσ j h2; rw [← e', hfr _ (by omega)] at this; cases this
      · omega
    let ρ' : Nat → Bk := fun x => if q x = true then ρ x else ρ₀ (k + (x - nb))
    have hρτ : ∀ i, i < k' → ρ' (τ i) = ρ₀ i := by
      intro i hi
      show (if q (if i < k then σ i else nb + (i - k)) = true then ρ (if i < k then σ i else nb + (i - k)) else ρ₀ (k + ((if i < k then σ i else nb + (i - k)) - nb))) = ρ₀ i
      by_cases h : i < k
      · simp only [if_pos h, if_pos (hσ i h)]
        exact (hag i (lt_iff.2 h)).symm
      · simp only [if_neg h]
        rw [if_neg (by rw [hfr _ (by omega)]; simp)]
        congr 1
        omega
    refine ⟨ρ', fun n hn => if_pos hn, hρτ, fun H' hH hH' => ?_⟩
    refine ⟨fun x => if h : ∃ i, i < k' ∧ τ i = x then pt' h.choose else pt x, ?_⟩
    have hch : ∀ {x i}, i < k' → τ i = x → (if h : ∃ i, i < k' ∧ τ i = x then pt' h.choose else pt x) = pt' i := by
      intro x i hi e
      have hex : ∃ i, i < k' ∧ τ i = x := ⟨i, hi, e⟩
      rw [dif_pos hex]
      have := hex.choose_spec
      rw [hτinj _ _ (this.2.trans e.symm) this.1 hi]
    have hno : ∀ {x}, (∀ i, i < k' → τ i ≠ x) → (if h : ∃ i, i < k' ∧ τ i = x then pt' h.choose else pt x) = pt x := by
      intro x h
      rw [dif_neg]
      rintro ⟨i, hi, e⟩
      exact h i hi e
    have hout : ∀ {x}, (∀ i, i < k' → τ i ≠ x) → out x := by
      intro x h i hi e
      exact h i (by omega) (by show (if i < k then σ i else nb + (i - k)) = x; rw [if_pos hi]; exact e)
    have hO : ∀ x b, out x → pt x b ≠ none → (match amb.O b with | some o => some o | none => if ∃ x, out x ∧ pt x b ≠ none then w.heap[b]? else none) = w.heap[b]? := by
      intro x b hx hp
      have h1 := hs.out x b hp
      simp only [h1]
      rw [if_pos ⟨x, hx, hp⟩]
    have hOne : ∀ x b, out x → pt x b ≠ none → (match amb.O b with | some o => some o | none => if ∃ x, out x ∧ pt x b ≠ none then w.heap[b]? else none) ≠ none := by
      intro x b hx hp
      rw [hO x b hx hp]
      cases hq : pt x b with
      | none => exact absurd hq hp
      | some o => rw [hs.heap x b o hq]; simp
    constructor
    · intro x c hx
      by_cases hex : ∃ i, i < k' ∧ τ i = x
      · obtain ⟨i, hi, rfl⟩ := hex
        have h1 := hH i hi
        have h1' : H' (τ i) = (cs' i).map (LO.ren τ) := h1
        rw [hx] at h1'
        cases hc : cs' i with
        | none => rw [hc] at h1'; cases h1'
        | some c0 =>
          rw [hc] at h1'
          have h1' : c = c0.ren τ := Option.some.inj h1'
          subst h1'
          obtain ⟨_, h3, h4⟩ := hs'.den i c0 hc
          refine ⟨hτ i (lt_iff.2 hi), LO.ok_ren hτ h3, ?_⟩
          rw [hch hi rfl]
          refine Den.ren (Den.agree (q := lt k') ?_ (lt_iff.2 hi) h3 h4)
          exact fun j hj => hρτ j (lt_iff.1 hj)
      · have hno' : ∀ i, i < k' → τ i ≠ x := fun i hi e => hex ⟨i, hi, e⟩
        rw [hH' x hno'] at hx
        obtain ⟨h1, h2, h3⟩ := hs.den x c hx
        rw [hno hno']
        exact ⟨hq _ h1, LO.ok_mono hq h2, Den.agree (q := q) (fun n hn => if_pos hn) h1 h2 h3⟩
    · intro x hx b
      by_cases hex : ∃ i, i < k' ∧ τ i = x
      · obtain ⟨i, hi, rfl⟩ := hex
        rw [hch hi rfl]
        have h1' : H' (τ i) = (cs' i).map (LO.ren τ) := hH i hi
        rw [hx] at h1'
        refine hs'.empty i ?_ b
        cases hc : cs' i with
        | none => rfl
        | some c => rw [hc] at h1'; cases h1'
      · have hno' : ∀ i, i < k' → τ i ≠ x := fun i hi e => hex ⟨i, hi, e⟩
        rw [hH' x hno'] at hx
        rw [hno hno']
        exact hs.empty x hx b
    · intro x y b hxy hx
      by_cases hex : ∃ i, i < k' ∧ τ i = x
      · obtain ⟨i, hi, rfl⟩ := hex
        rw [hch hi rfl] at hx
        by_cases hey : ∃ j, j < k' ∧ τ j = y
        · obtain ⟨j, hj, rfl⟩ := hey
          rw [hch hj rfl]
          exact hs'.apart i j b (fun e => hxy (by rw [e])) hx
        · have hno' : ∀ i, i < k' → τ i ≠ y := fun i hi e => hey ⟨i, hi, e⟩
          rw [hno hno']
          have h1 := hs'.out i b hx
          cases hq : pt y b with
          | none => rfl
          | some o => exact absurd h1 (hOne y b (hout hno') (by simp [hq]))
      · have hno' : ∀ i, i < k' → τ i ≠ x := fun i hi e => hex ⟨i, hi, e⟩
        rw [hno hno'] at hx
        by_cases hey : ∃ j, j < k' ∧ τ j = y
        · obtain ⟨j, hj, rfl⟩ := hey
          rw [hch hj rfl]
          cases hq : pt' j b with
          | none => rfl
          | some o => exact absurd (hs'.out j b (by simp [hq])) (hOne x b (hout hno') hx)
        · have hno'' : ∀ i, i < k' → τ i ≠ y := fun i hi e => hey ⟨i, hi, e⟩
          rw [hno hno'']
          exact hs.apart x y b hxy hx
    · intro x b hx
      by_cases hex : ∃ i, i < k' ∧ τ i = x
      · obtain ⟨i, hi, rfl⟩ := hex
        rw [hch hi rfl] at hx
        have h1 := hs'.out i b hx
        cases ho : amb.O b with
        | none => rfl
        | some o => simp only [ho] at h1; cases h1
      · have hno' : ∀ i, i < k' → τ i ≠ x := fun i hi e => hex ⟨i, hi, e⟩
        rw [hno hno'] at hx
        exact hs.out x b hx
    · intro x b o hx
      by_cases hex : ∃ i, i < k' ∧ τ i = x
      · obtain ⟨i, hi, rfl⟩ := hex
        rw [hch hi rfl] at hx
        exact hs'.heap i b o hx
      · have hno' : ∀ i, i < k' → τ i ≠ x := fun i hi e => hex ⟨i, hi, e⟩
        rw [hno hno'] at hx
        refine hs'.old b o ?_
        have := hO x b (hout hno') (by simp [hx])
        exact this.trans (hs.heap x b o hx)
    · intro b o hb
      refine hs'.old b o ?_
      simp only [hb]
    · exact hs.ro
    · exact hs'.env
end Go.Sx

/- A thing in a symbolic heap is opened into its chunks, and shut again. No condition. -/
set_option linter.unusedVariables false
namespace Go.Sx

/-- The places of a body that are others' names. -/
def impPlaces {A : Type} (b : List (Option (LO A))) : List Nat := (b.zipIdx.filter fun c => c.1.isNone).map (·.2)

theorem impPlaces_none {A : Type} {b : List (Option (LO A))} {i : Nat} (h : i ∈ impPlaces b) : b[i]? = some none := by
  simp only [impPlaces, List.mem_map, List.mem_filter] at h
  obtain ⟨⟨c, j⟩, ⟨h1, h2⟩, rfl⟩ := h
  have := List.mem_zipIdx_iff_getElem?.1 h1
  simp at h2
  subst h2
  simpa using this

/-- Opened: the first chunk keeps the name, the others have new ones. -/
def opened {A : Type} (b : List (Option (LO A))) (imps : List Nat) (n nx : Nat) : Nat → Nat :=
  fun i => if i = 0 then n else match (impPlaces b).idxOf? i with | some k => imps.getD k 0 | none => nx + i

open Classical in
theorem SatP.open {A : Type} {body : A → List (Option (LO A))} {amb : Amb} {H : Nat → Option (LO A)} {nx : Nat} {ρ : Nat → Bk} {w : World} {pt : Nat → Hp}
    (hs : SatP body amb H (lt nx) ρ w pt) {n : Nat} {a : A} {imps : List Nat} (hn : H n = some (.abs a imps)) (h0 : 0 ∉ impPlaces (body a))
    (hlen : (impPlaces (body a)).length ≤ imps.length) :
    ∃ ρ', Agree (lt nx) ρ ρ' ∧ ∀ H', (∀ (i : Nat) (c : LO A), (body a)[i]? = some (some c) → H' (opened (body a) imps n nx i) = some (c.ren (opened (body a) imps n nx))) →
      (∀ x, (∀ (i : Nat) (c : LO A), (body a)[i]? = some (some c) → opened (body a) imps n nx i ≠ x) → x ≠ n → H' x = H x) →
      ((body a)[0]? = some none ∨ (body a)[0]? = none → H' n = none) →
      Sat body amb H' (lt (nx + (body a).length)) ρ' w := by
  obtain ⟨hnn, hok, hd⟩ := hs.den n _ hn
  have hnn := lt_iff.1 hnn
  generalize hc : LO.abs (A := A) a imps = c at hd
  generalize hp : pt n = p at hd
  cases hd with
  | @abs _ ρ₀ _ a' imps' hr ho himp pt₀ p' hok₀ hpt hz hu =>
    cases hc
    let τ := opened (body a) imps n nx
    let ρ' : Nat → Bk := fun x => if x < nx then ρ x else ρ₀ (x - nx)
    have hown : ∀ (i : Nat) (c : LO A), (body a)[i]? = some (some c) → i ≠ 0 → τ i = nx + i := by
      intro i c hi h
      show (if i = 0 then n else match (impPlaces (body a)).idxOf? i with | some k => imps.getD k 0 | none => nx + i) = nx + i
      rw [if_neg h]
      cases hk : (impPlaces (body a)).idxOf? i with
      | none => rfl
      | some k =>
        have : i ∈ impPlaces (body a) := List.isSome_idxOf?.1 (by simp [hk])
        have := impPlaces_none this
        rw [hi] at this; cases this
    have hτlt : ∀ i, i < (body a).length → τ i < nx + (body a).length := by
      intro i hi
      show (if i = 0 then n else match (impPlaces (body a)).idxOf? i with | some k => imps.getD k 0 | none => nx + i) < _
      split
      · omega
      · cases hk : (impPlaces (body a)).idxOf? i with
        | none => show nx + i < _; omega
        | some k =>
          have hkl : k < (impPlaces (body a)).length := by
            have := List.idxOf?_eq_some_iff.1 hk
            exact this.1
          have hk2 : k < imps.length := by omega
          show imps.getD k 0 < _
          simp only [LO.ok, List.all_eq_true, lt_iff] at hok
          have := hok _ (List.getElem_mem hk2)
          simp only [List.getD_eq_getElem?_getD, List.getElem?_eq_getElem hk2, Option.getD_some]
          omega
    have hρτ : ∀ i, i < (body a).length → ρ' (τ i) = ρ₀ i := by
      intro i hi
      by_cases hi0 : i = 0
      · subst hi0
        show (if n < nx then ρ n else ρ₀ (n - nx)) = ρ₀ 0
        rw [if_pos hnn, hr]
      · have e : τ i = match (impPlaces (body a)).idxOf? i with | some k => imps.getD k 0 | none => nx + i := if_neg hi0
        cases hk : (impPlaces (body a)).idxOf? i with
        | none =>
          rw [hk] at e
          show ρ' (τ i) = _
          rw [e]
          show (if nx + i < nx then _ else ρ₀ (nx + i - nx)) = _
          rw [if_neg (by omega)]
          congr 1
          omega
        | some k =>
          rw [hk] at e
          replace e : τ i = imps.getD k 0 := e
          have hk' := List.idxOf?_eq_some_iff.1 hk
          have hk2 : k < imps.length := by have := hk'.1; omega
          simp only [LO.ok, List.all_eq_true, lt_iff] at hok
          have hlt := hok _ (List.getElem_mem hk2)
          have e2 : imps.getD k 0 = imps[k] := by simp [List.getD_eq_getElem?_getD, List.getElem?_eq_getElem hk2]
          rw [e, e2]
          show (if imps[k] < nx then ρ imps[k] else _) = _
          rw [if_pos hlt]
          refine (himp k i imps[k] ?_ (List.getElem?_eq_getElem hk2)).symm
          show (impPlaces (body a))[k]? = some i
          rw [List.getElem?_eq_getElem hk'.1]
          congr 1
          simpa using hk'.2.1
    refine ⟨ρ', fun x hx => if_pos (lt_iff.1 hx), fun H' hH hH' hH0 => ?_⟩
    have hown' : ∀ (i : Nat), i < (body a).length → (∃ c, (body a)[i]? = some (some c)) ∨ (∀ c, (body a)[i]? ≠ some (some c)) := by
      intro i _
      by_cases h : ∃ c, (body a)[i]? = some (some c)
      · exact .inl h
      · exact .inr fun c e => h ⟨c, e⟩
    refine ⟨fun x => if x = n then pt₀ 0 else if nx ≤ x then (if x = nx then Hp.none else pt₀ (x - nx)) else pt x, ?_⟩
    have hpn : ∀ i b o, pt₀ i b = some o → pt n b = some o := by
      intro i b o h
      rw [hp]
      exact hu.of i b o h
    have hpne : ∀ i b, pt₀ i b ≠ none → pt n b ≠ none := by
      intro i b h
      cases hq : pt₀ i b with
      | none => exact absurd hq h
      | some o => rw [hpn i b o hq]; simp
    have hold : ∀ x, nx ≤ x → H x = none := by
      intro x hx
      cases hq : H x with
      | none => rfl
      | some c => have := lt_iff.1 (hs.den x c hq).1; omega
    have hdo : ∀ x, x ≠ n → x < nx → ∀ (i : Nat) (c : LO A), (body a)[i]? = some (some c) → τ i ≠ x := by
      intro x hx hlt i c hi e
      by_cases hi0 : i = 0
      · subst hi0; exact hx e.symm
      · rw [hown i c hi hi0] at e; omega
    constructor
    · intro x c hx
      by_cases hxn : x = n
      · subst hxn
        cases hb0 : (body a)[0]? with
        | none => rw [hH0 (.inr hb0)] at hx; cases hx
        | some oc =>
          cases oc with
          | none => rw [hH0 (.inl hb0)] at hx; cases hx
          | some c0 =>
            have h1 : H' (τ 0) = some (c0.ren τ) := hH 0 c0 hb0
            have h2 : τ 0 = x := if_pos rfl
            rw [h2, hx] at h1
            have h1 := Option.some.inj h1
            subst h1
            refine ⟨lt_iff.2 (by omega), LO.ok_ren (fun i hi => lt_iff.2 (hτlt i (lt_iff.1 hi))) (hok₀ 0 c0 hb0), ?_⟩
            simp only [if_true]
            have hl0 : 0 < (body a).length := by
              rcases Nat.lt_or_ge 0 (body a).length with h | h
              · exact h
              · rw [List.getElem?_eq_none h] at hb0; cases hb0
            have := Den.ren (σ := τ) (n := 0) (Den.agree (q := lt (body a).length) (ρ' := fun i => ρ' (τ i)) (fun j hj => hρτ j (lt_iff.1 hj)) (lt_iff.2 hl0) (hok₀ 0 c0 hb0) (hpt 0 c0 hb0))
            rwa [h2] at this
      · by_cases hge : nx ≤ x
        · by_cases hex : ∃ (i : Nat) (c : LO A), (body a)[i]? = some (some c) ∧ τ i = x
          · obtain ⟨i, c0, hi, rfl⟩ := hex
            have hi0 : i ≠ 0 := by
              rintro rfl
              exact hxn (if_pos rfl)
            have h1 : H' (τ i) = some (c0.ren τ) := hH i c0 hi
            rw [hx] at h1
            have h1 := Option.some.inj h1
            subst h1
            have hil : i < (body a).length := by
              rcases Nat.lt_or_ge i (body a).length with h | h
              · exact h
              · rw [List.getElem?_eq_none h] at hi; cases hi
            refine ⟨lt_iff.2 (hτlt i hil), LO.ok_ren (fun i hi => lt_iff.2 (hτlt i (lt_iff.1 hi))) (hok₀ i c0 hi), ?_⟩
            simp only [if_neg hxn, if_pos hge]
            have e := hown i c0 hi hi0
            rw [if_neg (by omega), show τ i - nx = i from by omega]
            exact Den.ren (σ := τ) (n := i) (Den.agree (q := lt (body a).length) (ρ' := fun i => ρ' (τ i)) (fun j hj => hρτ j (lt_iff.1 hj)) (lt_iff.2 hil) (hok₀ i c0 hi) (hpt i c0 hi))
          · rw [hH' x (fun i c hi e => hex ⟨i, c, hi, e⟩) hxn, hold x hge] at hx
            cases hx
        · have hlt : x < nx := by omega
          rw [hH' x (hdo x hxn hlt) hxn] at hx
          obtain ⟨h1, h2, h3⟩ := hs.den x c hx
          simp only [if_neg hxn, if_neg hge]
          exact ⟨lt_iff.2 (by omega), LO.ok_mono (Sub.lt (by omega)) h2, Den.agree (q := lt nx) (fun x hx => if_pos (lt_iff.1 hx)) h1 h2 h3⟩
    · intro x hx b
      by_cases hxn : x = n
      · subst hxn
        simp only [if_true]
        refine hz 0 (fun c hc => ?_) b
        have h1 : H' (τ 0) = some (c.ren τ) := hH 0 c hc
        rw [show τ 0 = x from if_pos rfl, hx] at h1
        cases h1
      · by_cases hge : nx ≤ x
        · simp only [if_neg hxn, if_pos hge]
          split
          · rfl
          · rename_i hne
            refine hz (x - nx) (fun c hc => ?_) b
            have h1 : H' (τ (x - nx)) = some (c.ren τ) := hH _ c hc
            rw [hown _ c hc (by omega), show nx + (x - nx) = x from by omega, hx] at h1
            cases h1
        · simp only [if_neg hxn, if_neg hge]
          rw [hH' x (hdo x hxn (by omega)) hxn] at hx
          exact hs.empty x hx b
    · intro x y b hxy hx
      have key : ∀ x, (if x = n then pt₀ 0 else if nx ≤ x then (if x = nx then Hp.none else pt₀ (x - nx)) else pt x) b ≠ none →
          (∃ i, pt₀ i b ≠ none ∧ (x = n ∧ i = 0 ∨ x ≠ n ∧ nx < x ∧ i = x - nx)) ∨ (x ≠ n ∧ x < nx ∧ pt x b ≠ none) := by
        intro x hx
        by_cases hxn : x = n
        · simp only [if_pos hxn] at hx; exact .inl ⟨0, hx, .inl ⟨hxn, rfl⟩⟩
        · simp only [if_neg hxn] at hx
          by_cases hge : nx ≤ x
          · simp only [if_pos hge] at hx
            by_cases he : x = nx
            · simp only [if_pos he] at hx; exact absurd rfl hx
            · simp only [if_neg he] at hx; exact .inl ⟨x - nx, hx, .inr ⟨hxn, by omega, rfl⟩⟩
          · simp only [if_neg hge] at hx; exact .inr ⟨hxn, by omega, hx⟩
      cases hq : (if y = n then pt₀ 0 else if nx ≤ y then (if y = nx then Hp.none else pt₀ (y - nx)) else pt y) b with
      | none => rfl
      | some o =>
        exfalso
        rcases key x hx with ⟨i, h1, h2⟩ | ⟨h1, h2, h3⟩ <;> rcases key y (by rw [hq]; simp) with ⟨j, g1, g2⟩ | ⟨g1, g2, g3⟩
        · have hij : i ≠ j := by
            rintro rfl
            rcases h2 with ⟨h, h'⟩ | ⟨h, h', h''⟩ <;> rcases g2 with ⟨g, g'⟩ | ⟨g, g', g''⟩ <;> omega
          exact g1 (hu.apart i j b hij h1)
        · exact g3 (hs.apart n y b (fun e => g1 e.symm) (hpne i b h1))
        · exact hpne j b g1 (hs.apart x n b h1 h3)
        · exact g3 (hs.apart x y b hxy h3)
    · intro x b hx
      by_cases hxn : x = n
      · simp only [if_pos hxn] at hx; exact hs.out n b (hpne _ b hx)
      · simp only [if_neg hxn] at hx
        by_cases hge : nx ≤ x
        · simp only [if_pos hge] at hx
          split at hx
          · exact absurd rfl hx
          · exact hs.out n b (hpne _ b hx)
        · simp only [if_neg hge] at hx; exact hs.out x b hx
    · intro x b o hx
      by_cases hxn : x = n
      · simp only [if_pos hxn] at hx; exact hs.heap n b o (hpn _ b o hx)
      · simp only [if_neg hxn] at hx
        by_cases hge : nx ≤ x
        · simp only [if_pos hge] at hx
          split at hx
          · cases hx
          · exact hs.heap n b o (hpn _ b o hx)
        · simp only [if_neg hge] at hx; exact hs.heap x b o hx
    · exact hs.old
    · exact hs.ro
    · exact hs.env
  | _ => cases hc

open Classical in
theorem SatP.shut {A : Type} {body : A → List (Option (LO A))} {amb : Amb} {H : Nat → Option (LO A)} {q : Nat → Bool} {ρ : Nat → Bk} {w : World} {pt : Nat → Hp}
    (hs : SatP body amb H q ρ w pt) (a : A) (τ : Nat → Nat) (imps : List Nat)
    (hb0 : ∃ l t, (body a)[0]? = some (some (.cells l t)))
    (hH : ∀ (i : Nat) (c : LO A), (body a)[i]? = some (some c) → H (τ i) = some (c.ren τ)) (hok₀ : ∀ (i : Nat) (c : LO A), (body a)[i]? = some (some c) → LO.ok (lt (body a).length) c = true)
    (hinj : ∀ (i j : Nat) (c d : LO A), (body a)[i]? = some (some c) → (body a)[j]? = some (some d) → τ i = τ j → i = j)
    (himp : ∀ (k i x : Nat), (impPlaces (body a))[k]? = some i → imps[k]? = some x → τ i = x) (hi : ∀ x ∈ imps, q x = true) :
    ∀ H', H' (τ 0) = some (.abs a imps) → (∀ (i : Nat) (c : LO A), (body a)[i]? = some (some c) → i ≠ 0 → H' (τ i) = none) →
      (∀ x, (∀ (i : Nat) (c : LO A), (body a)[i]? = some (some c) → τ i ≠ x) → H' x = H x) → Sat body amb H' q ρ w := by
  intro H' hH0 hHn hHo
  obtain ⟨l00, t00, hc00⟩ := hb0
  let own : Nat → Prop := fun i => ∃ c, (body a)[i]? = some (some c)
  let p : Hp := fun b => if h : ∃ i, own i ∧ pt (τ i) b ≠ none then pt (τ h.choose) b else none
  have hp1 : ∀ i b o, own i → pt (τ i) b = some o → p b = some o := by
    intro i b o hi h
    have hex : ∃ i, own i ∧ pt (τ i) b ≠ none := ⟨i, hi, by rw [h]; simp⟩
    show (if h : ∃ i, own i ∧ pt (τ i) b ≠ none then pt (τ h.choose) b else none) = _
    rw [dif_pos hex]
    obtain ⟨h1, h2⟩ := hex.choose_spec
    by_cases e : τ hex.choose = τ i
    · rw [e]; exact h
    · exact absurd (hs.apart (τ i) (τ hex.choose) b (fun e' => e e'.symm) (by rw [h]; simp)) h2
  have hp2 : ∀ b o, p b = some o → ∃ i, own i ∧ pt (τ i) b = some o := by
    intro b o h
    have h' : (if h : ∃ i, own i ∧ pt (τ i) b ≠ none then pt (τ h.choose) b else none) = some o := h
    split at h'
    · rename_i hex; exact ⟨_, hex.choose_spec.1, h'⟩
    · cases h'
  have hp3 : ∀ b, p b ≠ none → ∃ i, own i ∧ pt (τ i) b ≠ none := by
    intro b h
    cases hq : p b with
    | none => exact absurd hq h
    | some o => obtain ⟨i, h1, h2⟩ := hp2 b o hq; exact ⟨i, h1, by rw [h2]; simp⟩
  refine ⟨fun x => if x = τ 0 then p else if ∃ i, own i ∧ τ i = x then Hp.none else pt x, ?_⟩
  have hcase : ∀ x, x ≠ τ 0 → (¬ ∃ i, own i ∧ τ i = x) → (∀ (i : Nat) (c : LO A), (body a)[i]? = some (some c) → τ i ≠ x) := fun x _ h i c hi e => h ⟨i, ⟨c, hi⟩, e⟩
  constructor
  · intro x c hx
    by_cases hx0 : x = τ 0
    · subst hx0
      rw [hH0] at hx
      cases hx
      have h1 := hH 0 _ hc00
      refine ⟨(hs.den _ _ h1).1, by simpa [LO.ok] using hi, ?_⟩
      simp only [if_true]
      have ho0 : (ρ (τ 0)).o = 0 := by
        have h2 := (hs.den _ _ h1).2.2
        generalize hcc : LO.ren (A := A) τ (.cells l00 t00) = cc at h2
        generalize pt (τ 0) = pp at h2
        simp only [LO.ren] at hcc
        cases h2 with
        | cells ho => exact ho
        | _ => cases hcc
      refine Den.abs (ρ' := fun i => ρ (τ i)) rfl ho0 ?_ (fun i => if own i then pt (τ i) else Hp.none) p hok₀ ?_ ?_ ⟨?_, ?_, ?_⟩
      · intro k i x hk hx
        show ρ (τ i) = ρ x
        rw [himp k i x hk hx]
      · intro i c hc
        have ho : own i := ⟨c, hc⟩
        simp only [if_pos ho]
        exact Den.unren (hs.den _ _ (hH i c hc)).2.2
      · intro i hno b
        have ho : ¬ own i := fun ⟨c, hc⟩ => hno c hc
        simp only [if_neg ho]; rfl
      · intro b o h
        obtain ⟨i, h1, h2⟩ := hp2 b o h
        exact ⟨i, by simpa only [if_pos h1] using h2⟩
      · intro i b o h
        by_cases ho : own i
        · simp only [if_pos ho] at h; exact hp1 i b o ho h
        · simp only [if_neg ho] at h; cases h
      · intro i j b hij h
        by_cases ho : own i
        · simp only [if_pos ho] at h
          by_cases ho' : own j
          · simp only [if_pos ho']
            obtain ⟨c, hc⟩ := ho
            obtain ⟨d, hd⟩ := ho'
            exact hs.apart _ _ b (fun e => hij (hinj i j c d hc hd e)) h
          · simp only [if_neg ho']; rfl
        · simp only [if_neg ho] at h; exact absurd rfl h
    · by_cases hex : ∃ i, own i ∧ τ i = x
      · obtain ⟨i, ⟨c', hc'⟩, rfl⟩ := hex
        rw [hHn i c' hc' (fun e => hx0 (by rw [e]))] at hx
        cases hx
      · rw [hHo x (hcase x hx0 hex)] at hx
        simp only [if_neg hx0, if_neg hex]
        exact hs.den x c hx
  · intro x hx b
    by_cases hx0 : x = τ 0
    · subst hx0; rw [hH0] at hx; cases hx
    · by_cases hex : ∃ i, own i ∧ τ i = x
      · simp only [if_neg hx0, if_pos hex]; rfl
      · simp only [if_neg hx0, if_neg hex]
        rw [hHo x (hcase x hx0 hex)] at hx
        exact hs.empty x hx b
  · intro x y b hxy hx
    by_cases hx0 : x = τ 0
    · simp only [if_pos hx0] at hx
      have hy0 : y ≠ τ 0 := fun e => hxy (hx0.trans e.symm)
      obtain ⟨i, h1, h2⟩ := hp3 b hx
      simp only [if_neg hy0]
      split
      · rfl
      · rename_i hex
        exact hs.apart _ y b (fun e => hex ⟨i, h1, e⟩) h2
    · simp only [if_neg hx0] at hx
      split at hx
      · exact absurd rfl hx
      · rename_i hex
        by_cases hy0 : y = τ 0
        · simp only [if_pos hy0]
          cases hq : p b with
          | none => rfl
          | some o =>
            obtain ⟨i, h1, h2⟩ := hp2 b o hq
            exact absurd (hs.apart (τ i) x b (fun e => hex ⟨i, h1, e⟩) (by rw [h2]; simp)) hx
        · simp only [if_neg hy0]
          split
          · rfl
          · exact hs.apart x y b hxy hx
  · intro x b hx
    by_cases hx0 : x = τ 0
    · simp only [if_pos hx0] at hx
      obtain ⟨i, h1, h2⟩ := hp3 b hx
      exact hs.out _ b h2
    · simp only [if_neg hx0] at hx
      split at hx
      · exact absurd rfl hx
      · exact hs.out x b hx
  · intro x b o hx
    by_cases hx0 : x = τ 0
    · simp only [if_pos hx0] at hx
      obtain ⟨i, h1, h2⟩ := hp2 b o hx
      exact hs.heap _ b o h2
    · simp only [if_neg hx0] at hx
      split at hx
      · cases hx
      · exact hs.heap x b o hx
  · exact hs.old
  · exact hs.ro
  · exact hs.env
end Go.Sx

/- The symbolic executor: operations, regions, code. Definitions. -/
set_option linter.unusedVariables false
namespace Go.Sx

/-- A tree of tests. -/
inductive T (α : Type) where
  | ret (a : α)
  | br (c : Bool) (t e : T α)
  | bad (k : Nat)

def T.bind {α β : Type} : T α → (α → T β) → T β
  | .ret a, f => f a
  | .br c t e, f => .br c (t.bind f) (e.bind f)
  | .bad k, _ => .bad k
def T.eval {α : Type} : T α → Option α
  | .ret a => some a
  | .br c t e => cond c t.eval e.eval
  | .bad _ => none

/-- A question to the heap. -/
inductive Qy (A α : Type) where
  | ret (a : α)
  | br (c : Bool) (t e : Qy A α)
  | get (n : Nat) (k : Option (LO A) → Qy A α)
  | bad (k : Nat)

def Qy.bind {A α β : Type} : Qy A α → (α → Qy A β) → Qy A β
  | .ret a, f => f a
  | .br c t e, f => .br c (t.bind f) (e.bind f)
  | .get n k, f => .get n fun c => (k c).bind f
  | .bad k, _ => .bad k
def T.toQy {A α : Type} : T α → Qy A α
  | .ret a => .ret a
  | .br c t e => .br c t.toQy e.toQy
  | .bad k => .bad k
def Qy.run {A α : Type} (H : Nat → Option (LO A)) : Qy A α → List Nat → T (α × List Nat)
  | .ret a, l => .ret (a, l)
  | .br c t e, l => .br c (t.run H l) (e.run H l)
  | .get n k, l => (k (H n)).run H (n :: l)
  | .bad k, _ => .bad k

/-- What an operation gives: a value, what becomes of chunks, the next name. -/
structure Rs (A : Type) where
  v : LV
  us : List (Nat × Option (LO A))
  nx : Nat

structure Row where
  desc : TypeDesc
  size : Nat
  agg : Bool
  zero : LV
  bytes : Nat

/-- A function's contract: on arguments and chunks whose names are numbered as they are met. -/
abbrev Summ (A : Type) := List LV → List (Option (LO A)) → T (LV × List (Option (LO A)))

inductive Ex where
  | normal
  | exit (id : Nat)
  | goto (l : Nat)
  | ret
  deriving DecidableEq

structure St (A : Type) where
  fr : List LV
  hp : List (Nat × Option (LO A))
  nx : Nat

structure Env (A : Type) where
  ty : TypeId → Option Row
  summ : FuncId → Option (Summ A)
  inv : TypeId → String → Option FuncId
  mapOf : TypeId → Option (LO A)
  loops : Nat → Option (St A → T (Ex × St A))

section
variable {A : Type}

def hget (hp : List (Nat × Option (LO A))) (n : Nat) : Option (LO A) :=
  match hp with
  | [] => none
  | (m, c) :: l => match Nat.beq m n with | true => c | false => hget l n

def lget (cs : List (Option (LO A))) (i : Nat) : Option (LO A) := match cs[i]? with | some c => c | none => none

def LV.scalar : LV → Bool
  | .undef | .agg _ | .tup _ | .opq _ => false
  | _ => true
def LV.cellsOf : LV → Option (List LV)
  | .agg l => if l.all LV.scalar then some l else none
  | v => if v.scalar then some [v] else none

mutual
def LV.names : LV → List Nat
  | .ptr n _ | .pe n _ _ _ | .sl n _ _ _ _ | .vec n _ | .mp n | .nat n | .opq n => [n]
  | .fn _ a b => namesL a ++ namesL b
  | .ifc _ v => LV.names v
  | .agg l | .tup l => namesL l
  | _ => []
def namesL : List LV → List Nat
  | [] => []
  | a :: l => LV.names a ++ namesL l
end
def Rows.names : Rows → List Nat
  | .lvs _ l => l.flatMap namesL
  | _ => []
def LO.names : LO A → List Nat
  | .cells l _ => namesL l
  | .arr r _ | .vec r _ => r.names
  | .avec _ _ h => match h with | some n => [n] | none => []
  | .roI _ | .roB _ => []
  | .map _ p => match p with | some (_, n) => [n] | none => []
  | .gmap _ _ h => match h with | some (_, n) => [n] | none => []
  | .abs _ l => l

def addNames : List Nat → List Nat → List Nat
  | σ, [] => σ
  | σ, n :: l => if σ.elem n then addNames σ l else addNames (σ ++ [n]) l

/-- The chunks that are met from some names on. -/
def reach : Nat → (i : Nat) → List Nat → List (Option (LO A)) → Qy A (List Nat × List (Option (LO A)))
  | 0, _, _, _ => .bad 1
  | f + 1, i, σ, cs =>
    match σ[i]? with
    | none => .ret (σ, cs)
    | some n => .get n fun c => match c with
      | none => reach f (i + 1) σ (cs ++ [none])
      | some c => reach f (i + 1) (addNames σ c.names) (cs ++ [some c])

def idx (σ : List Nat) (n : Nat) : Nat := match σ with | [] => 0 | m :: l => match Nat.beq m n with | true => 0 | false => idx l n + 1

/-- Back to the caller's names: those that came in, and new ones from nx on. -/
def outN (σ : List Nat) (nx : Nat) (i : Nat) : Nat := match σ[i]? with | some n => n | none => nx + (i - σ.length)

def backUs (σ : List Nat) (nx : Nat) : (i : Nat) → List (Option (LO A)) → List (Nat × Option (LO A))
  | _, [] => []
  | i, c :: l => (outN σ nx i, c.map (LO.ren (outN σ nx))) :: backUs σ nx (i + 1) l

def callQ (E : Env A) (nx : Nat) (f : FuncId) (args : List LV) : Qy A (Rs A) :=
  match E.summ f with
  | none => .bad (1000 + f)
  | some S => (reach 40 0 (addNames [] (namesL args)) []).bind fun (σ, cs) =>
    (S (args.map (LV.ren (idx σ))) (cs.map fun c => c.map (LO.ren (idx σ)))).toQy.bind fun (v, post) => if σ.length ≤ post.length then .ret ⟨v.ren (outN σ nx), backUs σ nx 0 post, nx + (post.length - σ.length)⟩ else .bad 2

def fieldOf (E : Env A) (t : TypeId) (f : Nat) : Option (Nat × TypeId) :=
  match E.ty t with
  | some r => match r.desc with
    | .struct fs => match fs[f]? with
      | some fd => some (fd.offset, fd.type)
      | none => none
    | _ => none
  | none => none

def descT (E : Env A) (t : TypeId) : Option TypeDesc := match E.ty t with | some r => some r.desc | none => none
def sizeT (E : Env A) (t : TypeId) : Option Nat := match E.ty t with | some r => some r.size | none => none
def aggT (E : Env A) (t : TypeId) : Option Bool := match E.ty t with | some r => some r.agg | none => none

def rs (v : LV) (nx : Nat) : Qy A (Rs A) := .ret ⟨v, [], nx⟩

/-- The cells of a variable of type t at an address. -/
def partOf (E : Env A) (t : TypeId) (l : List LV) (o : Nat) : Option LV :=
  match E.ty t with
  | none => none
  | some r => match r.agg with
    | true => if o + r.size ≤ l.length then some (.agg ((l.drop o).take r.size)) else none
    | false => l[o]?

def loadQ (E : Env A) (nx : Nat) (t : TypeId) (a : LV) : Qy A (Rs A) :=
  match a with
  | .ptr n o => .get n fun c => match c with
    | some (.cells l _) => match partOf E t l o with
      | some v => rs v nx
      | none => .bad 11
    | _ => .bad 12
  | .pe n sz i j => .get n fun c =>
    match aggT E t with
    | some false =>
      match c with
      | some (.arr r _) | some (.vec r _) => if r.size == sz && decide (j < sz) then .br (decide (i < r.len)) (rs (r.cell i j) nx) (.bad 13) else .bad 14
      | some (.roI l) => if sz == 1 && j == 0 then .br (decide (i < l.length)) (rs (.int .i64 (l.getD i 0)) nx) (.bad 13) else .bad 14
      | some (.roB l) => if sz == 1 && j == 0 then .br (decide (i < l.length)) (rs (.bool (l.getD i false)) nx) (.bad 13) else .bad 14
      | some (.avec (a :: l) t none) => match i with
        | 0 => if sz == 1 && j == 0 then .ret ⟨.ptr nx 0, [(nx, some (.abs a [])), (n, some (.avec (a :: l) t (some nx)))], nx + 1⟩ else .bad 14
        | _ + 1 => .bad 15
      | some (.avec (_ :: _) _ (some m)) => match i with
        | 0 => if sz == 1 && j == 0 then rs (.ptr m 0) nx else .bad 14
        | _ + 1 => .bad 15
      | _ => .bad 16
    | some true =>
      match c, j with
      | some (.arr (.pairs l) _), 0 | some (.vec (.pairs l) _), 0 => if sz == 2 && sizeT E t == some 2 then
          .br (decide (i < l.length)) (rs (.agg [(Rows.pairs l).cell i 0, (Rows.pairs l).cell i 1]) nx) (.bad 13) else .bad 17
      | _, _ => .bad 18
    | none => .bad 19
  | _ => .bad 20

def storeAll : List LV → Nat → List LV → List LV
  | l, _, [] => l
  | l, o, v :: vs => storeAll (l.set o v) (o + 1) vs

def storeQ (E : Env A) (nx : Nat) (t : TypeId) (a x : LV) : Qy A (Rs A) :=
  match x.cellsOf, E.ty t with
  | some vs, some row =>
    if vs.length == row.size then
      match a with
      | .ptr n o => .get n fun c => match c with
        | some (.cells l t') => if o + vs.length ≤ l.length then .ret ⟨.undef, [(n, some (.cells (storeAll l o vs) t'))], nx⟩ else .bad 21
        | _ => .bad 22
      | .pe n sz i j => match vs with
        | [v] => .get n fun c => match c with
          | some (.arr r t') => if r.size == sz && decide (j < sz) then
              match r.setCell i j v with
              | some r' => .br (decide (i < r.len)) (.ret ⟨.undef, [(n, some (.arr r' t'))], nx⟩) (.bad 23)
              | none => .bad 24
            else .bad 25
          | some (.vec r t') => if r.size == sz && decide (j < sz) then
              match r.setCell i j v with
              | some r' => .br (decide (i < r.len)) (.ret ⟨.undef, [(n, some (.vec r' t'))], nx⟩) (.bad 23)
              | none => .bad 24
            else .bad 25
          | _ => .bad 26
        | _ => .bad 27
      | _ => .bad 28
    else .bad 29
  | _, _ => .bad 30

def intOp (op : BinOp) (k : IntKind) (x y : Int) : Option LV :=
  match op with
  | .add => some (.int k (k.wrap (x + y)))
  | .sub => some (.int k (k.wrap (x - y)))
  | .mul => some (.int k (k.wrap (x * y)))
  | .and => some (.int k (k.wrap (BitVec.ofInt k.bits x &&& BitVec.ofInt k.bits y).toNat))
  | .or => some (.int k (k.wrap (BitVec.ofInt k.bits x ||| BitVec.ofInt k.bits y).toNat))
  | .eql => some (.bool (x == y))
  | .neq => some (.bool (x != y))
  | .lss => some (.bool (decide (x < y)))
  | .leq => some (.bool (decide (x ≤ y)))
  | .gtr => some (.bool (decide (x > y)))
  | .geq => some (.bool (decide (x ≥ y)))
  | _ => none

def shl64 (x y : Int) : Int := IntKind.i64.wrap (x * 2 ^ min y.toNat 64)
def shr64 (x y : Int) : Int := x.fdiv (2 ^ min y.toNat 64)
def and64 (x y : Int) : Int := IntKind.i64.wrap (BitVec.ofInt 64 x &&& BitVec.ofInt 64 y).toNat
def or64 (x y : Int) : Int := IntKind.i64.wrap (BitVec.ofInt 64 x ||| BitVec.ofInt 64 y).toNat
def w64 (x : Int) : Int := IntKind.i64.wrap x

def binQ (E : Env A) (nx : Nat) (op : BinOp) (t : TypeId) (x y : LV) : Qy A (Rs A) :=
  match x, y with
  | .int .i64 a, .int .i64 b =>
    match op with
    | .add => rs (.int .i64 (w64 (a + b))) nx
    | .sub => rs (.int .i64 (w64 (a - b))) nx
    | .mul => rs (.int .i64 (w64 (a * b))) nx
    | .and => rs (.int .i64 (and64 a b)) nx
    | .or => rs (.int .i64 (or64 a b)) nx
    | .quo => .br (b == 0) (.bad 31) (rs (.int .i64 (w64 (a.tdiv b))) nx)
    | .rem => .br (b == 0) (.bad 31) (rs (.int .i64 (a.tmod b)) nx)
    | .shl => .br (decide (b < 0)) (.bad 32) (rs (.int .i64 (shl64 a b)) nx)
    | .shr => .br (decide (b < 0)) (.bad 32) (rs (.int .i64 (shr64 a b)) nx)
    | .eql => rs (.bool (a == b)) nx
    | .neq => rs (.bool (a != b)) nx
    | .lss => rs (.bool (decide (a < b))) nx
    | .leq => rs (.bool (decide (a ≤ b))) nx
    | .gtr => rs (.bool (decide (a > b))) nx
    | .geq => rs (.bool (decide (a ≥ b))) nx
    | _ => .bad 33
  | .int .i64 a, .int .u64 b =>
    match op with
    | .shl => .br (decide (b < 0)) (.bad 32) (rs (.int .i64 (shl64 a b)) nx)
    | .shr => .br (decide (b < 0)) (.bad 32) (rs (.int .i64 (shr64 a b)) nx)
    | _ => .bad 33
  | .bool a, .bool b => match op, descT E t with
    | .eql, some .bool => rs (.bool (a == b)) nx
    | .neq, some .bool => rs (.bool (!(a == b))) nx
    | _, _ => .bad 34
  | .nilp, .nilp => match op, descT E t with
    | .eql, some (.pointer _) => rs (.bool true) nx
    | .neq, some (.pointer _) => rs (.bool false) nx
    | _, _ => .bad 35
  | .ptr _ _, .nilp | .pe _ _ _ _, .nilp | .nilp, .ptr _ _ | .nilp, .pe _ _ _ _ => match op, descT E t with
    | .eql, some (.pointer _) => rs (.bool false) nx
    | .neq, some (.pointer _) => rs (.bool true) nx
    | _, _ => .bad 36
  | .ifc _ _, .nili | .nili, .ifc _ _ => match op, descT E t with
    | .eql, some (.interface _) => rs (.bool false) nx
    | .neq, some (.interface _) => rs (.bool true) nx
    | _, _ => .bad 37
  | .fn _ _ _, .nilf | .nilf, .fn _ _ _ => match op, descT E t with
    | .eql, some (.func _ _ _) => rs (.bool false) nx
    | .neq, some (.func _ _ _) => rs (.bool true) nx
    | _, _ => .bad 38
  | .nilf, .nilf => match op, descT E t with
    | .eql, some (.func _ _ _) => rs (.bool true) nx
    | .neq, some (.func _ _ _) => rs (.bool false) nx
    | _, _ => .bad 38
  | _, _ => .bad 39

/-- nil against nil at an interface type: where one of the two is the literal. -/
def niliQ (E : Env A) (nx : Nat) (op : BinOp) (t : TypeId) (x y : Operand) : Qy A (Rs A) :=
  match x, y with
  | .const _, _ | _, .const _ => match op, descT E t with
    | .eql, some (.interface _) => rs (.bool true) nx
    | .neq, some (.interface _) => rs (.bool false) nx
    | _, _ => .bad 40
  | _, _ => .bad 41

def fillL (sizes : Nat → Option (Nat × Nat)) (cells : List LV) : List (Nat × LV) → Option (List LV)
  | [] => some cells
  | (i, v) :: rest => match sizes i, v.cellsOf with
    | some (off, size), some vs => if vs.length == size && decide (off + size ≤ cells.length) then fillL sizes (storeAll cells off vs) rest else none
    | _, _ => none

def buildQ (E : Env A) (nx : Nat) (t : TypeId) (parts : List (Nat × LV)) : Qy A (Rs A) :=
  match E.ty t with
  | none => .bad 42
  | some row => match row.zero with
    | .agg z => match row.desc with
      | .struct fs => match fillL (fun i => match fs[i]? with | some fd => (sizeT E fd.type).map fun s => (fd.offset, s) | none => none) z parts with
        | some l => if fs.toList.all (fun fd => (E.ty fd.type).isSome) then rs (.agg l) nx else .bad 43
        | none => .bad 44
      | .array _ e => match sizeT E e with
        | some s => match fillL (fun i => some (i * s, s)) z parts with
          | some l => rs (.agg l) nx
          | none => .bad 45
        | none => .bad 46
      | _ => .bad 47
    | _ => .bad 48

/-- What lies in a new variable. -/
def newVarQ (E : Env A) (nx : Nat) (t : TypeId) (v : LV) : Qy A (Rs A) :=
  match v.cellsOf with
  | some l => .ret ⟨.ptr nx 0, [(nx, some (.cells l t))], nx + 1⟩
  | none => .bad 49

def indexAddrQ (E : Env A) (nx : Nat) (t : TypeId) (x i : LV) : Qy A (Rs A) :=
  match i with
  | .int .i64 z =>
    match descT E t with
    | some (.slice e) => match sizeT E e with
      | none => .bad 50
      | some s => match x with
        | .sl n sz o len cap => if sz == s then .br (decide (0 ≤ z ∧ z < len)) (rs (.pe n sz (o + z.toNat) 0) nx) (.bad 51) else .bad 52
        | .vec n len => .br (decide (0 ≤ z ∧ z < len)) (rs (.pe n s z.toNat 0) nx) (.bad 51)
        | _ => .bad 53
    | some (.array len e) => match sizeT E e with
      | none => .bad 50
      | some s => match x with
        | .ptr n o => .br (decide (0 ≤ z ∧ z < len)) (rs (.ptr n (o + z.toNat * s)) nx) (.bad 51)
        | .pe n sz i 0 => if sz == s then .br (decide (0 ≤ z ∧ z < len)) (rs (.pe n sz (i + z.toNat) 0) nx) (.bad 51) else .bad 52
        | _ => .bad 53
    | _ => .bad 54
  | _ => .bad 55

def makeSliceQ (E : Env A) (nx : Nat) (t : TypeId) (l c : LV) : Qy A (Rs A) :=
  match l, c, descT E t with
  | .int .i64 x, .int .i64 y, some (.slice e) => match E.ty e with
    | some row => .br (decide (0 ≤ x ∧ y ≤ 1048576) && (x == y))
        (match row.desc, row.size, row.bytes, row.zero with
          | .int .i64, 1, 8, .int .i64 0 => .ret ⟨.sl nx 1 0 x.toNat x.toNat, [(nx, some (.arr (.ints (List.replicate x.toNat 0)) e))], nx + 1⟩
          | .bool, 1, 1, .bool false => .ret ⟨.sl nx 1 0 x.toNat x.toNat, [(nx, some (.arr (.bools (List.replicate x.toNat false)) e))], nx + 1⟩
          | _, _, _, _ => .bad 56) (.bad 57)
    | none => .bad 58
  | _, _, _ => .bad 59

def optInt : Option LV → Option (Option Int)
  | none => some none
  | some (.int .i64 x) => some (some x)
  | _ => none

def sliceQ (E : Env A) (nx : Nat) (t : TypeId) (x : LV) (lo hi mx : Option LV) : Qy A (Rs A) :=
  match descT E t, optInt lo, optInt hi, optInt mx with
  | some (.slice e), some lo, some hi, some mx =>
    match sizeT E e with
    | none => .bad 60
    | some s => match x with
      | .sl n sz o len cap => if sz == s && (hi.isSome || mx.isNone) then
          let h : Int := hi.getD len
          let m : Int := mx.getD cap
          let l : Int := lo.getD 0
          .br (decide (0 ≤ m ∧ m ≤ cap) && (decide (0 ≤ h ∧ h ≤ m) && decide (0 ≤ l ∧ l ≤ h)))
            (rs (.sl n sz (if m.toNat = l.toNat then o else o + l.toNat) (h.toNat - l.toNat) (m.toNat - l.toNat)) nx) (.bad 61) else .bad 62
      | .vec n len => match mx with
        | some _ => .bad 63
        | none =>
          let h : Int := hi.getD len
          let l : Int := lo.getD 0
          .get n fun c => match c with
            | some (.vec r t') => if r.size == s then .br ((len == r.len) && (decide (0 ≤ h ∧ h ≤ len) && decide (0 ≤ l ∧ l ≤ h)))
                (.ret ⟨.vec nx (h.toNat - l.toNat), [(nx, some (.vec ((r.take h.toNat).drop l.toNat) t')), (n, none)], nx + 1⟩) (.bad 64) else .bad 65
            | some (.avec (a :: as) t' hole) => match lo, hi with
              | some 1, none => if s == 1 then .br (len == as.length + 1) (.ret ⟨.vec nx as.length, [(nx, some (.avec as t' none)), (n, none)], nx + 1⟩) (.bad 64) else .bad 65
              | _, _ => .bad 66
            | _ => .bad 67
      | .nils => match mx with
        | some _ => .bad 68
        | none => .br (decide (lo.getD 0 = 0 ∧ hi.getD 0 = 0)) (rs .nils nx) (.bad 68)
      | _ => .bad 69
  | _, _, _, _ => .bad 70

def Rows.scalar : Rows → Bool
  | .lvs _ l => l.all fun r => r.all LV.scalar
  | _ => true

/-- What comes behind a slice. -/
def addQ (size : Nat) (y : LV) : Qy A (Option Rows) :=
  match y with
  | .nils => .ret none
  | .sl m sz o len cap => .get m fun c => match c with
    | some (.arr r _) => if sz == size && r.size == size && r.scalar then .br (decide (o + len ≤ r.len)) (.ret (some ((r.take (o + len)).drop o))) (.bad 72) else .bad 73
    | some (.cells l _) => if sz == size && o == 0 && len == 1 && l.length == size && l.all LV.scalar then .ret (some (.lvs size [l])) else .bad 74
    | _ => .bad 75
  | .vec m len => .get m fun c => match c with
    | some (.vec r _) => if r.size == size && r.scalar then .br (len == r.len) (.ret (some r)) (.bad 76) else .bad 77
    | _ => .bad 78
  | _ => .bad 79

def Rows.one : Rows → Option (List LV)
  | .lvs _ [l] => some l
  | _ => none
def retype (l : List LV) : Rows :=
  match l with
  | [.int .i64 v] => .ints [v]
  | [.bool v] => .bools [v]
  | [.int .i64 v, .int .i64 w] => .pairs [(v, w)]
  | l => .lvs l.length [l]
/-- Does the zero value have its type's cells. -/
def zeroFits (row : Row) : Bool := match row.zero.cellsOf with | some z => z.length == row.size | none => false
def joinRows (r0 r : Rows) : Option Rows :=
  match r.one with
  | some l => r0.push l
  | none => r0.append r

def appendQ (E : Env A) (nx : Nat) (t t2 : TypeId) (x y : LV) : Qy A (Rs A) :=
  match descT E t, descT E t2 with
  | some (.slice e), some (.slice _) => match E.ty e with
    | none => .bad 71
    | some row => (addQ row.size y).bind fun r? => match r? with
      | none => match x with
        | .nils => rs .nils nx
        | .vec n len => .get n fun c => match c with
          | some (.vec r0 _) => .br (len == r0.len) (rs (.vec n len) nx) (.bad 80)
          | _ => .bad 80
        | _ => .bad 80
      | some r =>
        if decide (row.bytes ≤ 64) && decide (1 ≤ row.size) && zeroFits row then
        match x with
        | .nils => .br (decide (r.len = 0)) (rs .nils nx) (.br (decide (r.len ≤ 1048576)) (match r.one with
            | some l => match l with
              | [.ptr m 0] => .get m fun c => match c with
                | some (.abs a []) => .ret ⟨.vec nx 1, [(nx, some (.avec [a] e none)), (m, none)], nx + 1⟩
                | _ => .ret ⟨.vec nx 1, [(nx, some (.vec r e))], nx + 1⟩
              | l => .ret ⟨.vec nx 1, [(nx, some (.vec (retype l) e))], nx + 1⟩
            | none => .ret ⟨.vec nx r.len, [(nx, some (.vec r e))], nx + 1⟩) (.bad 81))
        | .vec n len => .get n fun c => match c with
          | some (.vec r0 t') => match joinRows r0 r with
            | some r1 => if r0.size == row.size && t' == e then .br ((len == r0.len) && decide (r0.len + r.len ≤ 1048576)) (.ret ⟨.vec nx (len + r.len), [(nx, some (.vec r1 e)), (n, none)], nx + 1⟩) (.bad 82) else .bad 83
            | none => .bad 84
          | some (.avec l t' none) => match r.one with
            | some [.ptr m 0] => .get m fun c => match c with
              | some (.abs a []) => if t' == e && (row.size == 1) then .br ((len == l.length) && decide (l.length ≤ 1048576)) (.ret ⟨.vec nx (len + 1), [(nx, some (.avec (l ++ [a]) e none)), (n, none), (m, none)], nx + 1⟩) (.bad 82) else .bad 85
              | _ => .bad 85
            | _ => .bad 86
          | _ => .bad 87
        | _ => .bad 88
        else .bad 89
  | _, _ => .bad 90

def maxLV : LV → LV → Option LV
  | .int .i64 x, .int .i64 y => some (.int .i64 (if y > x then y else x))
  | _, _ => none
def minLV : LV → LV → Option LV
  | .int .i64 x, .int .i64 y => some (.int .i64 (if y < x then y else x))
  | _, _ => none

def lenQ (E : Env A) (nx : Nat) (t : TypeId) (x : LV) : Qy A (Rs A) :=
  match descT E t, x with
  | some (.slice _), .sl _ _ _ len _ => rs (.int .i64 len) nx
  | some (.slice _), .vec _ len => rs (.int .i64 len) nx
  | some (.slice _), .nils => rs (.int .i64 0) nx
  | some (.array n _), _ => rs (.int .i64 n) nx
  | _, _ => .bad 91

def lookupQ (E : Env A) (nx : Nat) (t : TypeId) (m k : LV) : Qy A (Rs A) :=
  match descT E t, m, k with
  | some (.map kt et), .mp n, .int .i64 z =>
    match descT E kt, E.ty et with
    | some (.int .i64), some row => .get n fun c => match c with
      | some (.map mv none) => match mv, row.zero with
        | .bools _, .bool false | .ints _, .int .i64 0 | .pairs _, .agg [.int .i64 0, .int .i64 0] => rs (mv.at z) nx
        | _, _ => .bad 92
      | some (.gmap f t' none) => match row.zero with
        | .nils => .br ((f z).isEmpty) (rs .nils nx) (.ret ⟨.vec nx (f z).length, [(nx, some (.vec (.pairs (f z)) t')), (n, some (.gmap f t' (some (z, nx))))], nx + 1⟩)
        | _ => .bad 93
      | some (.gmap f t' (some (z', m'))) => match row.zero with
        | .nils => .br (z == z') (rs (.vec m' (f z').length) nx) (.bad 94)
        | _ => .bad 93
      | _ => .bad 95
    | _, _ => .bad 96
  | _, _, _ => .bad 97

def mapUpdateQ (E : Env A) (nx : Nat) (t : TypeId) (m k v : LV) : Qy A (Rs A) :=
  match descT E t, m, k with
  | some (.map kt _), .mp n, .int .i64 z =>
    match descT E kt with
    | some (.int .i64) => .get n fun c => match c with
      | some (.map mv none) => match mv.put z v with
        | some mv' => .ret ⟨.undef, [(n, some (.map mv' none))], nx⟩
        | none => .bad 98
      | some (.gmap f t' hole) =>
        .br (match hole with | some (z', _) => z == z' | none => true)
          (match v with
            | .nils => .ret ⟨.undef, [(n, some (.gmap (upf f z []) t' none))], nx⟩
            | .vec m' len => .get m' fun c' => match c' with
              | some (.vec (.pairs l) t'') => .br ((len == l.length) && (!l.isEmpty) && (t'' == t')) (.ret ⟨.undef, [(n, some (.gmap (upf f z l) t' none)), (m', none)], nx⟩) (.bad 99)
              | _ => .bad 100
            | _ => .bad 101) (.bad 102)
      | _ => .bad 103
    | _ => .bad 104
  | _, _, _ => .bad 105

def mapEntryQ (E : Env A) (nx : Nat) (t : TypeId) (m k : LV) : Qy A (Rs A) :=
  match descT E t, m, k with
  | some (.map kt et), .mp n, .int .i64 z =>
    match descT E kt, E.ty et with
    | some (.int .i64), some row => .get n fun c => match c with
      | some (.map mv none) => match mv, row.zero with
        | .bools _, .bool false | .ints _, .int .i64 0 | .pairs _, .agg [.int .i64 0, .int .i64 0] =>
          .ret ⟨.tup [mv.at z, .nat nx], [(n, some (.map mv (some (z, nx))))], nx + 1⟩
        | _, _ => .bad 92
      | _ => .bad 106
    | _, _ => .bad 107
  | _, _, _ => .bad 108

def entryStoreQ (nx : Nat) (m s v : LV) : Qy A (Rs A) :=
  match m, s with
  | .mp n, .nat q => .get n fun c => match c with
    | some (.map mv (some (z, q'))) => match Nat.beq q q', mv.put z v with
      | true, some mv' => .ret ⟨.undef, [(n, some (.map mv' none))], nx⟩
      | _, _ => .bad 109
    | _ => .bad 110
  | _, _ => .bad 111

def clearQ (E : Env A) (nx : Nat) (t : TypeId) (x : LV) : Qy A (Rs A) :=
  match descT E t, x with
  | some (.map _ _), .mp n => .get n fun c => match c with
    | some (.map mv none) => .ret ⟨.tup [], [(n, some (.map mv.clear none))], nx⟩
    | _ => .bad 112
  | _, _ => .bad 113

def typeAssertQ (E : Env A) (nx : Nat) (x : LV) (asserted : TypeId) (ok : Bool) : Qy A (Rs A) :=
  match E.ty asserted, x with
  | some row, .ifc t v =>
    match row.desc with
    | .interface _ => .bad 114
    | _ => match Nat.beq t asserted, ok with
      | true, true => rs (.tup [v, .bool true]) nx
      | true, false => rs v nx
      | false, true => rs (.tup [row.zero, .bool false]) nx
      | false, false => .bad 115
  | _, _ => .bad 116

def extractQ (nx : Nat) (x : LV) (i : Nat) : Qy A (Rs A) :=
  match x with
  | .tup l => match l[i]? with | some v => rs v nx | none => .bad 117
  | _ => .bad 118

def fieldQ (E : Env A) (nx : Nat) (t : TypeId) (x : LV) (f : Nat) : Qy A (Rs A) :=
  match x, fieldOf E t f with
  | .agg l, some (off, ft) => match partOf E ft l off with
    | some v => rs v nx
    | none => .bad 119
  | _, _ => .bad 120

def fieldAddrQ (E : Env A) (nx : Nat) (t : TypeId) (x : LV) (f : Nat) : Qy A (Rs A) :=
  match fieldOf E t f with
  | some (off, ft) => match sizeT E ft with
    | some (_ + 1) => match x with
      | .ptr n o => rs (.ptr n (o + off)) nx
      | .pe n sz i j => rs (.pe n sz i (j + off)) nx
      | _ => .bad 121
    | _ => .bad 122
  | none => .bad 123

def indexQ (E : Env A) (nx : Nat) (t : TypeId) (x i : LV) : Qy A (Rs A) :=
  match descT E t, x, i with
  | some (.array len e), .agg l, .int .i64 z =>
    match sizeT E e with
    | some s => .br (decide (0 ≤ z ∧ z < len)) (match partOf E e l (z.toNat * s) with | some v => rs v nx | none => .bad 124) (.bad 125)
    | none => .bad 126
  | _, _, _ => .bad 127

/-- A constant. -/
def LV.ofConst : Value → Option LV
  | .bool b => some (.bool b)
  | .int k n => some (.int k n)
  | .string s => some (.str s)
  | .pointer none => some .nilp
  | .slice none 0 0 => some .nils
  | .map none => some .nilm
  | .nilFunc => some .nilf
  | .nilIface => some .nili
  | .agg cs => match cs.toList.mapM (fun | .int k n => some (LV.int k n) | .bool b => some (LV.bool b) | .pointer none => some .nilp | .slice none 0 0 => some .nils | .nilIface => some .nili | .nilFunc => some .nilf | .map none => some .nilm | _ => none) with
    | some l => some (.agg l)
    | none => none
  | _ => none

def evL (fr : List LV) : Operand → LV
  | .tmp t => match fr[t]? with | some v => v | none => .undef
  | .const v => match LV.ofConst v with | some l => l | none => .undef
  | .global _ => .undef
  | .func f => .fn f [] []

/-- May the operand be read: no constant that the walk can't say. -/
def evOk : Operand → Bool
  | .tmp _ => true
  | .const v => (LV.ofConst v).isSome
  | .global _ => false
  | .func _ => true

def allOk (o : Oper) : Bool := o.op.operands.toList.all evOk

def intsOf : List LV → Option (List Int)
  | [] => some []
  | .int .i64 x :: l => match intsOf l with
    | some xs => some (x :: xs)
    | none => none
  | _ => none

def opQ (E : Env A) (nx : Nat) (ev : Operand → LV) (o : Oper) : Qy A (Rs A) :=
  match o.op with
  | .move x | .assign x => rs (ev x) nx
  | .pick c a b => match ev c with
    | .bool t => .br t (rs (ev a) nx) (rs (ev b) nx)
    | _ => .bad 130
  | .alloc t => match E.ty t with
    | some row => newVarQ E nx t row.zero
    | none => .bad 131
  | .box t x => newVarQ E nx t (ev x)
  | .build t parts => buildQ E nx t (parts.toList.map fun p => (p.1, ev p.2))
  | .buildSlice t n parts => match descT E t with
    | some (.slice e) => match E.ty e with
      | some row => match row.zero.cellsOf with
        | some z => if z.length == row.size && decide (1 ≤ row.size) && decide (n * row.size ≤ 1000) then
            match fillL (fun i => some (i * row.size, row.size)) ((List.range n).flatMap fun _ => z) (parts.toList.map fun p => (p.1, ev p.2)) with
            | some l => match intsOf l with
              | some xs => match Nat.beq row.size 1 && Nat.beq xs.length n with
                | true => .ret ⟨.vec nx n, [(nx, some (.vec (.ints xs) e))], nx + 1⟩
                | false => .ret ⟨.sl nx row.size 0 n n, [(nx, some (.cells l e))], nx + 1⟩
              | none => .ret ⟨.sl nx row.size 0 n n, [(nx, some (.cells l e))], nx + 1⟩
            | none => .bad 132
          else .bad 133
        | none => .bad 133
      | none => .bad 133
    | _ => .bad 134
  | .load t a => loadQ E nx t (ev a)
  | .store t a v => storeQ E nx t (ev a) (ev v)
  | .nilCheck x => match ev x with
    | .ptr n o => rs (.ptr n o) nx
    | .pe n sz i j => rs (.pe n sz i j) nx
    | .fn f a b => rs (.fn f a b) nx
    | .ifc t v => rs (.ifc t v) nx
    | _ => .bad 135
  | .binOp op t x y _ => match ev x, ev y with
    | .nili, .nili => niliQ E nx op t x y
    | a, b => binQ E nx op t a b
  | .unOp .not _ x => match ev x with
    | .bool b => rs (.bool (!b)) nx
    | _ => .bad 136
  | .unOp .neg _ x => match ev x with
    | .int .i64 n => rs (.int .i64 (w64 (0 - n))) nx
    | _ => .bad 136
  | .convert s d x => match descT E s, descT E d, ev x with
    | some (.int .i64), some (.int .i64), .int .i64 n => rs (.int .i64 (w64 n)) nx
    | _, _, _ => .bad 137
  | .makeInterface t x => match descT E t with
    | some (.interface _) => .bad 138
    | some _ => rs (.ifc t (ev x)) nx
    | none => .bad 138
  | .makeFunc (.func f) first caps => rs (.fn f (first.toList.map ev) (caps.toList.map ev)) nx
  | .makeMap t none => match E.mapOf t with
    | some c => .ret ⟨.mp nx, [(nx, some c)], nx + 1⟩
    | none => .bad 139
  | .makeSlice t l c => makeSliceQ E nx t (ev l) (ev c)
  | .slice t x lo hi mx => sliceQ E nx t (ev x) (lo.map ev) (hi.map ev) (mx.map ev)
  | .fieldAddr t x f => fieldAddrQ E nx t (ev x) f
  | .field t x f => fieldQ E nx t (ev x) f
  | .indexAddr t x i => indexAddrQ E nx t (ev x) (ev i)
  | .index t x i => indexQ E nx t (ev x) (ev i)
  | .lookup t m k false => lookupQ E nx t (ev m) (ev k)
  | .mapUpdate t m k v => mapUpdateQ E nx t (ev m) (ev k) (ev v)
  | .mapEntry t m k => mapEntryQ E nx t (ev m) (ev k)
  | .entryStore _ m s v => entryStoreQ nx (ev m) (ev s) (ev v)
  | .typeAssert x _ a ok => typeAssertQ E nx (ev x) a ok
  | .extract x i => extractQ nx (ev x) i
  | .call c => match c.callee with
    | .value f => match ev f with
      | .fn g first caps => callQ E nx g (first ++ c.args.toList.map ev ++ caps)
      | _ => .bad 140
    | .invoke r name => match ev r with
      | .ifc t v => match E.inv t name with
        | some g => callQ E nx g (v :: c.args.toList.map ev)
        | none => .bad (5000 + t)
      | _ => .bad 141
    | .builtin .append => match c.args.toList, c.argTypes.toList with
      | [x, y], [t, t2] => appendQ E nx t t2 (ev x) (ev y)
      | _, _ => .bad 142
    | .builtin .len => match c.args.toList, c.argTypes.toList with
      | [x], [t] => lenQ E nx t (ev x)
      | _, _ => .bad 143
    | .builtin .max => match c.args.toList with
      | [x, y] => match maxLV (ev x) (ev y) with | some v => rs v nx | none => .bad 144
      | _ => .bad 144
    | .builtin .min => match c.args.toList with
      | [x, y] => match minLV (ev x) (ev y) with | some v => rs v nx | none => .bad 145
      | _ => .bad 145
    | .builtin .clear => match c.args.toList, c.argTypes.toList with
      | [x], [t] => clearQ E nx t (ev x)
      | _, _ => .bad 146
    | _ => .bad 147
  | _ => .bad 148

def putL (fr : List LV) (d : Option Nat) (v : LV) : List LV := match d with | some t => fr.set t v | none => fr

/-- One operation, its guard asked first. -/
def guarded {β : Type} (ops : Array Oper) (o : Oper) (st : St A) (yes no : St A → T β) : T β :=
  match o.guard with
  | none => yes st
  | some (g, want) => match (ops[g]?).bind (·.dst) with
    | none => no st
    | some d => match st.fr[d]? with
      | some (.bool c) => .br c ((if want then yes else no) { st with fr := st.fr.set d (.bool true) }) ((if want then no else yes) { st with fr := st.fr.set d (.bool false) })
      | some .undef => no st
      | _ => .bad 150

def stepL (E : Env A) (o : Oper) (st : St A) : T (St A) :=
  match allOk o with
  | false => .bad 151
  | true => ((opQ E st.nx (evL st.fr) o).run (hget st.hp) []).bind fun (r, _) =>
    match Nat.ble st.nx r.nx with
    | true => .ret ⟨putL st.fr o.dst r.v, r.us ++ st.hp, r.nx⟩
    | false => .bad 155

def seqOps (E : Env A) (ops : Array Oper) : List Oper → St A → T (St A)
  | [], st => .ret st
  | o :: l, st => (guarded ops o st (fun st => stepL E o st) (fun st => .ret { st with fr := putL st.fr o.dst .undef })).bind fun st => seqOps E ops l st

end
end Go.Sx

/- The symbolic executor: draw regions, code. Definitions. -/
set_option linter.unusedVariables false
namespace Go.Sx
section
variable {A : Type}

/-- What an operation of a region that draws did: which chunks it asked for and turned. -/
structure Rec where
  acc : List Nat
  us : List Nat

/-- An operation of a region that draws: its new names begin at a number of its own. -/
def stepD (E : Env A) (o : Oper) (nx : Nat) (st : St A) : T (St A × Rec) :=
  match allOk o with
  | false => .bad 152
  | true => ((opQ E nx (evL st.fr) o).run (hget st.hp) []).bind fun (r, acc) =>
    if decide (r.nx ≤ nx + 16) then .ret (⟨putL st.fr o.dst r.v, r.us ++ st.hp, st.nx⟩, ⟨acc, r.us.map (·.1)⟩) else .bad 153

def drawOps (E : Env A) (ops : Array Oper) : Nat → List Oper → St A → List Rec → T (St A × List Rec)
  | _, [], st, rs => .ret (st, rs)
  | i, o :: l, st, rs => (guarded ops o st (fun st' => stepD E o (st.nx + 16 * i) st') (fun st => .ret ({ st with fr := putL st.fr o.dst .undef }, ⟨[], []⟩))).bind
      fun (st', r) => drawOps E ops (i + 1) l st' (rs ++ [r])

/-- For each operation, which of the earlier ones it is bound behind (a number's bits). -/
def bindsB (e : Edge) : Bool := match e.ground with | .textOnly _ | .gcOnly _ => false | _ => true
def befores : List Oper → List Nat → List Nat
  | [], acc => acc
  | o :: l, acc => befores l (acc ++ [o.after.toList.foldl (fun s e => if bindsB e then s ||| 2 ^ e.on ||| acc.getD e.on 0 else s) 0])

def meets (a b : List Nat) : Bool := a.any fun x => b.elem x
/-- Two operations that touch none of each other's. -/
def Rec.free (r s : Rec) : Bool := !(meets r.acc s.us) && !(meets s.acc r.us) && !(meets r.us s.us)

def indepRow (bs : List Nat) (rs : List Rec) (j : Nat) (rj : Rec) : Nat → List Rec → Bool
  | _, [] => true
  | i, r :: l => (if i < j then (bs.getD j 0).testBit i || r.free rj else true) && indepRow bs rs j rj (i + 1) l
def indepAll (bs : List Nat) (rs : List Rec) : Nat → List Rec → Bool
  | _, [] => true
  | j, r :: l => indepRow bs rs j r 0 rs && indepAll bs rs (j + 1) l

/-- Operations share no temporary but where one is bound behind the other. -/
def tmpsOf (ops : Array Oper) (o : Oper) : List Nat := o.looksAt ops
def apartRow (ops : Array Oper) (bs : List Nat) (j : Nat) (oj : Oper) : Nat → List Oper → Bool
  | _, [] => true
  | i, o :: l => (if i < j then (bs.getD j 0).testBit i || Oper.apart ops o oj else true) && apartRow ops bs j oj (i + 1) l
def apartAll (ops : Array Oper) (bs : List Nat) : Nat → List Oper → Bool
  | _, [] => true
  | j, o :: l => apartRow ops bs j o 0 ops.toList && apartAll ops bs (j + 1) l

/-- Every operation is bound behind earlier ones alone. -/
def backEdges : Nat → List Oper → Bool
  | _, [] => true
  | j, o :: l => o.after.toList.all (fun e => !bindsB e || decide (e.on < j)) && backEdges (j + 1) l

def regionL (E : Env A) (ops : Array Oper) (draw : Bool) (st : St A) : T (St A) :=
  match draw with
  | false => seqOps E ops ops.toList st
  | true => (drawOps E ops 0 ops.toList st []).bind fun (st', rs) =>
    let bs := befores ops.toList []
    if indepAll bs rs 0 rs && apartAll ops bs 0 ops.toList && backEdges 0 ops.toList then .ret { st' with nx := st.nx + 16 * ops.size } else .bad 154

def Ex.isExit (e : Ex) (id : Nat) : Bool := match e with | .exit i => Nat.beq i id | _ => false

def sx (E : Env A) : Nat → Code → St A → T (Ex × St A)
  | 0, _, _ => .bad 160
  | f + 1, c, st =>
    match c with
    | .skip | .label _ => .ret (.normal, st)
    | .region _ ops draw => (regionL E ops draw st).bind fun st => .ret (.normal, st)
    | .seq a b => (sx E f a st).bind fun (e, st) => match e with | .normal => sx E f b st | e => .ret (e, st)
    | .cond (.tmp t) a b => match st.fr[t]? with
      | some (.bool c) => .br c (sx E f a { st with fr := st.fr.set t (.bool true) }) (sx E f b { st with fr := st.fr.set t (.bool false) })
      | _ => .bad 161
    | .cond _ _ _ => .bad 162
    | .block id b =>
      match E.loops id with
      | some s => s st
      | none => (sx E f b st).bind fun (e, st) => match e.isExit id with | true => .ret (.normal, st) | false => .ret (e, st)
    | .loop b => (sx E f b st).bind fun (e, st) => match e with | .normal => sx E f (.loop b) st | e => .ret (e, st)
    | .scope b => sxScope E f b b st
    | .exit id => .ret (.exit id, st)
    | .goto l => .ret (.goto l, st)
    | .ret => .ret (.ret, st)
    | _ => .bad 163
where
  sxScope (E : Env A) : Nat → Code → Code → St A → T (Ex × St A)
  | 0, _, _, _ => .bad 164
  | f + 1, b, cur, st => (sx E f cur st).bind fun (e, st) => match e with
    | .goto l => match findLabel b l with
      | some rest => sxScope E f b rest st
      | none => .ret (.goto l, st)
    | e => .ret (e, st)

/-- A function's results. -/
def resL (E : Env A) (rsv : List ResultVar) (st : St A) : T (List LV) :=
  match rsv with
  | [] => .ret []
  | .tmp t :: l => (resL E l st).bind fun vs => .ret (evL st.fr (.tmp t) :: vs)
  | .cell a t :: l => match evL st.fr (.tmp a) with
    | .ptr n o => match hget st.hp n with
      | some (.cells c _) => match partOf E t c o with
        | some v => (resL E l st).bind fun vs => .ret (v :: vs)
        | none => .bad 165
      | _ => .bad 168
    | _ => .bad 169

def packL : List LV → LV
  | [v] => v
  | vs => .tup vs

def initHp : Nat → List (Option (LO A)) → List (Nat × Option (LO A))
  | _, [] => []
  | i, c :: l => (i, c) :: initHp (i + 1) l

/-- A function's body, on arguments and chunks. -/
def fnL (E : Env A) (fn : Func) (args : List LV) (cs : List (Option (LO A))) : T (LV × St A) :=
  match fn.body with
  | none => .bad 166
  | some c => (sx E 4000 c ⟨args ++ List.replicate (fn.ntmps - args.length) .undef, initHp 0 cs, cs.length⟩).bind fun (e, st) => match e with
    | .normal | .ret => (resL E fn.results.toList st).bind fun vs => .ret (packL vs, st)
    | _ => .bad 167
end
end Go.Sx

/- Tables of types, and that they fit the program. No condition. -/
set_option linter.unusedVariables false
namespace Go.Sx

inductive Tyt where
  | leaf
  | node (l : Tyt) (k : Nat) (v : Row) (r : Tyt)
def Tyt.find : Tyt → Nat → Option Row
  | .leaf, _ => none
  | .node l k v r, n => match Nat.beq k n with
    | true => some v
    | false => match Nat.blt n k with
      | true => l.find n
      | false => r.find n

/-- The row says what the program's own table says. -/
structure RowOk (P : Program) (t : TypeId) (r : Row) : Prop where
  desc : ∀ w, (underlying t).run P w = .ok r.desc w
  size : ∀ w, (sizeOf t).run P w = .ok r.size w
  agg : ∀ w, (isAgg t).run P w = .ok r.agg w
  zero : ∀ w (ρ : Nat → Bk), (zeroValue t).run P w = .ok (den ρ r.zero) w
  info : ∀ w, ∃ i, (typeInfo t).run P w = .ok i w ∧ i.bytes = r.bytes ∧ i.size = r.size
  closed : LV.ok (lt 0) r.zero = true

theorem RowOk.of {P : Program} {t : TypeId} {r : Row} {z : Value} {i : TypeInfo} (h1 : ∀ w, (underlying t).run P w = .ok r.desc w) (h2 : ∀ w, (sizeOf t).run P w = .ok r.size w)
    (h3 : ∀ w, (isAgg t).run P w = .ok r.agg w) (h4 : ∀ w, (zeroValue t).run P w = .ok z w) (h5 : ∀ w, (typeInfo t).run P w = .ok i w)
    (h6 : den (fun _ => default) r.zero = z := by rfl) (h7 : LV.ok (lt 0) r.zero = true := by rfl) (h8 : i.bytes = r.bytes := by rfl) (h9 : i.size = r.size := by rfl) : RowOk P t r := by
  refine ⟨h1, h2, h3, fun w ρ => ?_, fun w => ⟨i, h5 w, h8, h9⟩, h7⟩
  rw [h4, ← h6]
  exact congrArg (fun v => Result.ok v w) (den_agree (p := lt 0) (ρ := ρ) (ρ' := fun _ => default) (fun n h => absurd (lt_iff.1 h) (Nat.not_lt_zero n)) r.zero h7)

def Tyt.All (p : TypeId → Row → Prop) : Tyt → Prop
  | .leaf => True
  | .node l k v r => l.All p ∧ p k v ∧ r.All p
theorem Tyt.All.find {p : TypeId → Row → Prop} : ∀ {t : Tyt}, t.All p → ∀ {n r}, t.find n = some r → p n r
  | .leaf, _, _, _, h => by cases h
  | .node l k v r, ⟨h1, h2, h3⟩, n, r', h => by
    simp only [Tyt.find] at h
    split at h
    · rename_i e
      cases h
      have : k = n := Nat.eq_of_beq_eq_true e
      exact this ▸ h2
    · split at h
      · exact h1.find h
      · exact h3.find h
end Go.Sx

/- What the symbolic executor's operations mean: the frame, and the plain laws on it. No condition. -/
set_option linter.unusedVariables false
namespace Go.Sx

def actOf (ρ : Nat → Bk) (fr : List LV) : Act := ⟨(denL ρ fr).toArray, []⟩

theorem denL_length (ρ : Nat → Bk) (l : List LV) : (denL ρ l).length = l.length := by rw [denL_eq]; simp
theorem denL_append (ρ : Nat → Bk) (a b : List LV) : denL ρ (a ++ b) = denL ρ a ++ denL ρ b := by simp [denL_eq]
theorem denL_getElem? (ρ : Nat → Bk) (l : List LV) (i : Nat) : (denL ρ l)[i]? = (l[i]?).map (den ρ) := by rw [denL_eq]; simp
theorem denL_set (ρ : Nat → Bk) (l : List LV) (i : Nat) (v : LV) : denL ρ (l.set i v) = (denL ρ l).set i (den ρ v) := by simp [denL_eq, List.map_set]

theorem ofConst_den (ρ : Nat → Bk) {v : Value} {l : LV} (h : LV.ofConst v = some l) : den ρ l = v := by
  unfold LV.ofConst at h
  split at h <;> (try (cases h; rfl)) <;> (try (cases h; done))
  rename_i cs
  split at h
  · rename_i l' hl
    cases h
    simp only [den]
    congr 1
    have key : ∀ (xs : List Value) (ys : List LV), xs.mapM (fun | .int k n => some (LV.int k n) | .bool b => some (LV.bool b) | .pointer none => some .nilp | .slice none 0 0 => some .nils | .nilIface => some .nili | .nilFunc => some .nilf | .map none => some .nilm | _ => none) = some ys → denL ρ ys = xs := by
      intro xs
      induction xs with
      | nil => intro ys h; simp at h; subst h; rfl
      | cons x xs ih =>
        intro ys h
        simp only [List.mapM_cons, Option.bind_eq_bind, Option.bind_eq_some_iff] at h
        obtain ⟨y, hy, ys', hys, h⟩ := h
        cases h
        simp only [denL]
        rw [ih ys' hys]
        congr 1
        split at hy <;> first | (cases hy; rfl) | (cases hy; done)
    rw [key _ _ hl]
  · cases h

theorem ofConst_ok {p : Nat → Bool} {v : Value} {l : LV} (h : LV.ofConst v = some l) : LV.ok p l = true := by
  unfold LV.ofConst at h
  split at h <;> (try (cases h; rfl)) <;> (try (cases h; done))
  rename_i cs
  split at h
  · rename_i l' hl
    cases h
    simp only [LV.ok]
    have key : ∀ (xs : List Value) (ys : List LV), xs.mapM (fun | .int k n => some (LV.int k n) | .bool b => some (LV.bool b) | .pointer none => some .nilp | .slice none 0 0 => some .nils | .nilIface => some .nili | .nilFunc => some .nilf | .map none => some .nilm | _ => none) = some ys → okL p ys = true := by
      intro xs
      induction xs with
      | nil => intro ys h; simp at h; subst h; rfl
      | cons x xs ih =>
        intro ys h
        simp only [List.mapM_cons, Option.bind_eq_bind, Option.bind_eq_some_iff] at h
        obtain ⟨y, hy, ys', hys, h⟩ := h
        cases h
        simp only [okL, ih ys' hys, Bool.and_true]
        split at hy <;> first | (cases hy; rfl) | (cases hy; done)
    exact key _ _ hl
  · cases h

theorem act_eval {ρ : Nat → Bk} {fr : List LV} {x : Operand} (h : evOk x = true) : (actOf ρ fr).eval x = den ρ (evL fr x) := by
  cases x with
  | tmp t =>
    simp only [Act.eval, actOf, evL, Array.getD_eq_getD_getElem?, List.getElem?_toArray, denL_getElem?]
    cases fr[t]? <;> simp [den]
  | const v =>
    simp only [evOk] at h
    simp only [Act.eval, evL]
    cases hl : LV.ofConst v with
    | none => rw [hl] at h; cases h
    | some l => exact (ofConst_den ρ hl).symm
  | global g => cases h
  | func f => simp [Act.eval, evL, den, denL]

theorem evL_ok {p : Nat → Bool} {fr : List LV} (h : okL p fr = true) (x : Operand) : LV.ok p (evL fr x) = true := by
  cases x with
  | tmp t =>
    simp only [evL]
    cases ht : fr[t]? with
    | none => rfl
    | some v =>
      rw [okL_eq, List.all_eq_true] at h
      exact h v (List.mem_of_getElem? ht)
  | const v =>
    simp only [evL]
    cases hl : LV.ofConst v with
    | none => rfl
    | some l => exact ofConst_ok hl
  | global g => rfl
  | func f => rfl

theorem act_put (ρ : Nat → Bk) (fr : List LV) (d : Option Nat) (v : LV) : (actOf ρ fr).put d (den ρ v) = actOf ρ (putL fr d v) := by
  cases d with
  | none => rfl
  | some t => simp [Act.put, actOf, putL, denL_set]

theorem act_agree {p : Nat → Bool} {ρ ρ' : Nat → Bk} (h : Agree p ρ ρ') {fr : List LV} (hf : okL p fr = true) : actOf ρ' fr = actOf ρ fr := by
  simp [actOf, denL_agree h fr hf]

theorem putL_ok {p : Nat → Bool} {fr : List LV} {d : Option Nat} {v : LV} (h : okL p fr = true) (hv : LV.ok p v = true) : okL p (putL fr d v) = true := by
  cases d with
  | none => exact h
  | some t =>
    rw [okL_eq, List.all_eq_true] at h ⊢
    intro x hx
    rcases List.mem_or_eq_of_mem_set hx with h' | h'
    · exact h x h'
    · rw [h']; exact hv

/-- What a question gives, asked of a heap. -/
def Gives {A α : Type} (H : Nat → Option (LO A)) (q : Qy A α) (r : α) : Prop := ∃ l acc, (q.run H l).eval = some (r, acc)

section
variable {A α β : Type} {H : Nat → Option (LO A)}

theorem T.eval_bind (t : T α) (f : α → T β) : (t.bind f).eval = t.eval.bind fun a => (f a).eval := by
  induction t with
  | ret a => rfl
  | bad k => rfl
  | br c t e h1 h2 => cases c <;> simp [T.bind, T.eval, h1, h2]

theorem Gives.ret {a r : α} (h : Gives H (.ret a) r) : r = a := by
  obtain ⟨l, acc, h⟩ := h
  simp only [Qy.run, T.eval, Option.some.injEq, Prod.mk.injEq] at h
  exact h.1.symm
theorem Gives.bad {k : Nat} {r : α} (h : Gives H (.bad k) r) : False := by
  obtain ⟨l, acc, h⟩ := h; cases h
theorem Gives.br {c : Bool} {t e : Qy A α} {r : α} (h : Gives H (.br c t e) r) : (c = true ∧ Gives H t r) ∨ (c = false ∧ Gives H e r) := by
  obtain ⟨l, acc, h⟩ := h
  cases c
  · exact .inr ⟨rfl, l, acc, h⟩
  · exact .inl ⟨rfl, l, acc, h⟩
theorem Gives.get {n : Nat} {k : Option (LO A) → Qy A α} {r : α} (h : Gives H (.get n k) r) : Gives H (k (H n)) r := by
  obtain ⟨l, acc, h⟩ := h; exact ⟨_, acc, h⟩

theorem Qy.run_bind (q : Qy A α) (f : α → Qy A β) : ∀ l, ((q.bind f).run H l).eval = ((q.run H l).eval).bind fun x => ((f x.1).run H x.2).eval := by
  induction q with
  | ret a => intro l; rfl
  | bad k => intro l; rfl
  | br c t e h1 h2 => intro l; cases c <;> simp [Qy.bind, Qy.run, T.eval, h1, h2]
  | get n k ih => intro l; exact ih _ _
theorem Gives.bind {q : Qy A α} {f : α → Qy A β} {r : β} (h : Gives H (q.bind f) r) : ∃ a, Gives H q a ∧ Gives H (f a) r := by
  obtain ⟨l, acc, h⟩ := h
  rw [Qy.run_bind, Option.bind_eq_some_iff] at h
  obtain ⟨⟨a, acc'⟩, h1, h2⟩ := h
  exact ⟨a, ⟨l, acc', h1⟩, _, acc, h2⟩
end

/-- A heap with some chunks turned. -/
def hov {A : Type} (us : List (Nat × Option (LO A))) (H : Nat → Option (LO A)) (n : Nat) : Option (LO A) :=
  match us with
  | [] => H n
  | (m, c) :: l => if m = n then c else hov l H n
theorem hget_append {A : Type} (us hp : List (Nat × Option (LO A))) (n : Nat) : hget (us ++ hp) n = hov us (hget hp) n := by
  induction us with
  | nil => rfl
  | cons x us ih =>
    obtain ⟨m, c⟩ := x
    simp only [List.cons_append, hget, hov]
    split
    · rename_i h; rw [if_pos (Nat.eq_of_beq_eq_true h)]
    · rename_i h; rw [if_neg (Nat.ne_of_beq_eq_false h)]; exact ih
theorem hov_one {A : Type} (H : Nat → Option (LO A)) (n : Nat) (c : Option (LO A)) : hov [(n, c)] H = upd H n c := by
  funext x
  simp only [hov, upd]
  by_cases h : n = x
  · rw [if_pos h, if_pos h.symm]
  · rw [if_neg h, if_neg (fun e => h e.symm)]
theorem hov_cons {A : Type} (H : Nat → Option (LO A)) (n : Nat) (c : Option (LO A)) (us : List (Nat × Option (LO A))) : hov ((n, c) :: us) H = upd (hov us H) n c := by
  funext x
  simp only [hov, upd]
  by_cases h : n = x
  · rw [if_pos h, if_pos h.symm]
  · rw [if_neg h, if_neg (fun e => h e.symm)]

theorem wp_value {P : Program} {o : Oper} {a : Act} {w w' : World} {next : Act → World → Prop} {Q : Exit → Act → World → Prop} {v : Value}
    (h : (execOp a.eval o).run P w = .ok (.value v) w') (hn : next (a.put o.dst v) w') : o.wp P a w next Q := by
  unfold Oper.wp; rw [h]; exact hn
theorem wp_skip_op {P : Program} {o : Oper} {a : Act} {w w' : World} {next : Act → World → Prop} {Q : Exit → Act → World → Prop}
    (h : (execOp a.eval o).run P w = .ok .skip w') (hn : next (a.put o.dst undef) w') : o.wp P a w next Q := by
  unfold Oper.wp; rw [h]; exact hn
end Go.Sx

/- What the symbolic executor's operations mean: operations that leave the heap alone. No condition. -/
set_option linter.unusedVariables false
set_option linter.unusedSimpArgs false
namespace Go.Sx

section
variable {A : Type} {P : Program} {H : Nat → Option (LO A)} {E : Env A} {p : Nat → Bool}

/-- A quiet operation's answer. -/
structure Quiet (p : Nat → Bool) (nx : Nat) (r : Rs A) : Prop where
  us : r.us = []
  nx : r.nx = nx
  ok : LV.ok p r.v = true

theorem Quiet.mk' {nx : Nat} {v : LV} (h : LV.ok p v = true) : Quiet (A := A) p nx ⟨v, [], nx⟩ := ⟨rfl, rfl, h⟩

def TyOk (P : Program) (E : Env A) : Prop := ∀ t r, E.ty t = some r → RowOk P t r

theorem descT_run (hT : TyOk P E) {t : TypeId} {d : TypeDesc} (h : descT E t = some d) (w : World) : (underlying t).run P w = .ok d w := by
  unfold descT at h
  split at h
  · rename_i r hr; cases h; exact (hT t r hr).desc w
  · cases h
theorem sizeT_run (hT : TyOk P E) {t : TypeId} {n : Nat} (h : sizeT E t = some n) (w : World) : (sizeOf t).run P w = .ok n w := by
  unfold sizeT at h
  split at h
  · rename_i r hr; cases h; exact (hT t r hr).size w
  · cases h
theorem aggT_run (hT : TyOk P E) {t : TypeId} {b : Bool} (h : aggT E t = some b) (w : World) : (isAgg t).run P w = .ok b w := by
  unfold aggT at h
  split at h
  · rename_i r hr; cases h; exact (hT t r hr).agg w
  · cases h

theorem equal_run {t : TypeId} {d : TypeDesc} (hd : ∀ w, (underlying t).run P w = .ok d w) {x y : Value} {b : Bool} (w : World)
    (h : match d, x, y with
      | .bool, .bool a, .bool c => b = (a == c)
      | .pointer _, .pointer none, .pointer c => b = c.isNone
      | .pointer _, .pointer (some _), .pointer none => b = false
      | .interface _, .nilIface, .nilIface => b = true
      | .interface _, .nilIface, .iface _ _ => b = false
      | .interface _, .iface _ _, .nilIface => b = false
      | .func _ _ _, .nilFunc, .nilFunc => b = true
      | .func _ _ _, .nilFunc, .func _ _ _ => b = false
      | .func _ _ _, .func _ _ _, .nilFunc => b = false
      | _, _, _ => False) : (Op.equal t x y).run P w = .ok b w := by
  show (Op.equalIn (9999 + 1) t x y).run P w = .ok b w
  unfold Op.equalIn
  simp only [Sem.run_bind, hd, Result.andThen_ok]
  split at h <;> first
    | exact h.elim
    | (subst h; rfl)

theorem eql_run {t : TypeId} {x y : Value} {b : Bool} {w : World} (h : (Op.equal t x y).run P w = .ok b w)
    (hb : ∀ op, binOp op t x y = (match op with | .eql => (do pure (.bool (← Op.equal t x y))) | .neq => (do pure (.bool (!(← Op.equal t x y)))) | _ => binOp op t x y)) :
    (binOp .eql t x y).run P w = .ok (.bool b) w ∧ (binOp .neq t x y).run P w = .ok (.bool (!b)) w := by
  constructor
  · rw [hb]; simp [h]
  · rw [hb]; simp [h]

theorem bin_ok (hT : TyOk P E) {nx : Nat} {op : BinOp} {t : TypeId} {x y : LV} {r : Rs A} (h : Gives H (binQ E nx op t x y) r) (ρ : Nat → Bk) (w : World) :
    Quiet p nx r ∧ (binOp op t (den ρ x) (den ρ y)).run P w = .ok (den ρ r.v) w := by
  unfold binQ at h
  split at h
  · rename_i a b
    split at h <;> first
      | exact (h.bad).elim
      | (cases h.ret; exact ⟨.mk' rfl, rfl⟩)
      | (rcases h.br with ⟨hc, h⟩ | ⟨hc, h⟩
         · exact (h.bad).elim
         · cases h.ret
           refine ⟨.mk' rfl, ?_⟩
           simp only [beq_eq_false_iff_ne, ne_eq, decide_eq_false_iff_not] at hc
           simp [binOp, den, Op.intDiv, Op.shift, w64, shl64, shr64, hc, IntKind.bits])
  · rename_i a b
    split at h <;> first
      | exact (h.bad).elim
      | (rcases h.br with ⟨hc, h⟩ | ⟨hc, h⟩
         · exact (h.bad).elim
         · cases h.ret
           refine ⟨.mk' rfl, ?_⟩
           simp only [decide_eq_false_iff_not] at hc
           simp [binOp, den, Op.shift, w64, shl64, shr64, hc, IntKind.bits])
  all_goals first
    | exact (h.bad).elim
    | (split at h <;> first
        | exact (h.bad).elim
        | (rename_i hd
           cases h.ret
           refine ⟨.mk' rfl, ?_⟩
           simp only [den]
           first
           | exact (eql_run (b := false) (equal_run (descT_run hT hd) w rfl) (fun op => by cases op <;> rfl)).1
           | exact (eql_run (b := true) (equal_run (descT_run hT hd) w rfl) (fun op => by cases op <;> rfl)).1
           | exact (eql_run (b := false) (equal_run (descT_run hT hd) w rfl) (fun op => by cases op <;> rfl)).2
           | exact (eql_run (b := true) (equal_run (descT_run hT hd) w rfl) (fun op => by cases op <;> rfl)).2
           | exact (eql_run (equal_run (descT_run hT hd) w rfl) (fun op => by cases op <;> rfl)).1
           | exact (eql_run (equal_run (descT_run hT hd) w rfl) (fun op => by cases op <;> rfl)).2))
end
end Go.Sx

/- What the symbolic executor's operations mean: operations that leave the heap alone, the rest. No condition. -/
set_option linter.unusedVariables false
set_option linter.unusedSimpArgs false
namespace Go.Sx

theorem add_none (b o n : Nat) : (⟨b, o, none⟩ : Addr).add n = ⟨b, o + n, none⟩ := by
  unfold Addr.add
  split
  · rename_i h; subst h; rfl
  · rfl

section
variable {A : Type} {P : Program} {H : Nat → Option (LO A)} {E : Env A} {p : Nat → Bool}

theorem okL_mem {l : List LV} (h : okL p l = true) {v : LV} (hv : v ∈ l) : LV.ok p v = true := by
  rw [okL_eq, List.all_eq_true] at h; exact h v hv
theorem okL_of {l : List LV} (h : ∀ v ∈ l, LV.ok p v = true) : okL p l = true := by
  rw [okL_eq, List.all_eq_true]; exact h
theorem okL_drop {l : List LV} (h : okL p l = true) (n : Nat) : okL p (l.drop n) = true := okL_of fun v hv => okL_mem h (List.mem_of_mem_drop hv)
theorem okL_take {l : List LV} (h : okL p l = true) (n : Nat) : okL p (l.take n) = true := okL_of fun v hv => okL_mem h (List.mem_of_mem_take hv)
theorem okL_app {a b : List LV} (ha : okL p a = true) (hb : okL p b = true) : okL p (a ++ b) = true := okL_of fun v hv => by
  rcases List.mem_append.1 hv with h | h
  · exact okL_mem ha h
  · exact okL_mem hb h
theorem okL_getElem? {l : List LV} (h : okL p l = true) {i : Nat} {v : LV} (hv : l[i]? = some v) : LV.ok p v = true := okL_mem h (List.mem_of_getElem? hv)

theorem partOf_ok {t : TypeId} {l : List LV} {o : Nat} {v : LV} (h : partOf E t l o = some v) (hl : okL p l = true) : LV.ok p v = true := by
  unfold partOf at h
  split at h
  · cases h
  · split at h
    · split at h
      · cases h; exact okL_take (okL_drop hl _) _
      · cases h
    · exact okL_getElem? hl h

theorem partOf_run (hT : TyOk P E) {t : TypeId} {l : List LV} {o : Nat} {v : LV} (h : partOf E t l o = some v) (ρ : Nat → Bk) (w : World) :
    (part t (denL ρ l).toArray o).run P w = .ok (den ρ v) w := by
  unfold partOf at h
  split at h
  · cases h
  · rename_i r hr
    have hk := hT t r hr
    split at h
    · rename_i ha
      have ha' := hk.agg w
      rw [ha] at ha'
      split at h
      · cases h
        simp only [part, Sem.run_bind, ha', Result.andThen_ok, if_true, hk.size w, Sem.run_pure, den]
        congr 2
        rw [denL_eq, denL_eq]
        simp [List.map_take, List.map_drop]
      · cases h
    · rename_i ha
      have ha' := hk.agg w
      rw [ha] at ha'
      simp only [part, Sem.run_bind, ha', Result.andThen_ok, Bool.false_eq_true, if_false]
      rw [List.getElem?_toArray, denL_getElem?, h]
      rfl

theorem fieldOf_run (hT : TyOk P E) {t : TypeId} {f off : Nat} {ft : TypeId} (h : fieldOf E t f = some (off, ft)) :
    ∃ fs fd, (∀ w, (underlying t).run P w = .ok (.struct fs) w) ∧ fs[f]? = some fd ∧ fd.offset = off ∧ fd.type = ft := by
  unfold fieldOf at h
  split at h
  · rename_i r hr
    split at h
    · rename_i fs hd
      split at h
      · rename_i fd hfd
        cases h
        exact ⟨fs, fd, fun w => by rw [(hT t r hr).desc w, hd], hfd, rfl, rfl⟩
      · cases h
    · cases h
  · cases h

theorem field_ok (hT : TyOk P E) {nx : Nat} {t : TypeId} {x : LV} {f : Nat} {r : Rs A} (h : Gives H (fieldQ E nx t x f) r) (hx : LV.ok p x = true) (ρ : Nat → Bk) (w : World) :
    Quiet p nx r ∧ (Instr.field t (den ρ x) f).run P w = .ok (den ρ r.v) w := by
  unfold fieldQ at h
  split at h
  · rename_i l off ft hf
    split at h
    · rename_i v hv
      cases h.ret
      obtain ⟨fs, fd, h1, h2, rfl, rfl⟩ := fieldOf_run hT hf
      refine ⟨.mk' (partOf_ok hv hx), ?_⟩
      simp only [Instr.field, Sem.run_bind, h1, Result.andThen_ok, h2, den, asAgg, Sem.run_pure, partOf_run hT hv]
    · exact (h.bad).elim
  · exact (h.bad).elim

theorem fieldAddr_ok (hT : TyOk P E) {nx : Nat} {t : TypeId} {x : LV} {f : Nat} {r : Rs A} (h : Gives H (fieldAddrQ E nx t x f) r) (hx : LV.ok p x = true) (ρ : Nat → Bk) (w : World) :
    Quiet p nx r ∧ (Instr.fieldAt t (den ρ x) f).run P w = .ok (den ρ r.v) w := by
  unfold fieldAddrQ at h
  split at h
  · rename_i off ft hf
    obtain ⟨fs, fd, h1, h2, rfl, rfl⟩ := fieldOf_run hT hf
    split at h
    · rename_i k hk
      have hs := sizeT_run hT hk w
      split at h
      · cases h.ret
        refine ⟨.mk' hx, ?_⟩
        simp only [Instr.fieldAt, Sem.run_bind, h1, Result.andThen_ok, h2, den, Instr.sureAddr, Sem.run_pure, fieldPlace, hs, if_neg (Nat.succ_ne_zero _), add_none, Nat.add_assoc]
      · cases h.ret
        refine ⟨.mk' hx, ?_⟩
        simp only [Instr.fieldAt, Sem.run_bind, h1, Result.andThen_ok, h2, den, Instr.sureAddr, Sem.run_pure, fieldPlace, hs, if_neg (Nat.succ_ne_zero _), add_none, Nat.add_assoc]
      · exact (h.bad).elim
    · exact (h.bad).elim
  · exact (h.bad).elim

theorem extract_ok {nx : Nat} {x : LV} {i : Nat} {r : Rs A} (h : Gives H (extractQ nx x i) r) (hx : LV.ok p x = true) (ρ : Nat → Bk) (w : World) :
    Quiet p nx r ∧ (Instr.extract (den ρ x) i).run P w = .ok (den ρ r.v) w := by
  unfold extractQ at h
  split at h
  · rename_i l
    split at h
    · rename_i v hv
      cases h.ret
      refine ⟨.mk' (okL_getElem? hx hv), ?_⟩
      simp only [Instr.extract, den, List.getElem?_toArray, denL_getElem?, hv, Option.map_some, Sem.run_pure]
    · exact (h.bad).elim
  · exact (h.bad).elim

theorem typeAssert_ok (hT : TyOk P E) {nx : Nat} {x : LV} {xt a : TypeId} {ok : Bool} {r : Rs A} (h : Gives H (typeAssertQ E nx x a ok) r) (hx : LV.ok p x = true) (ρ : Nat → Bk) (w : World) :
    Quiet p nx r ∧ (Instr.typeAssert (den ρ x) xt a ok).run P w = .ok (den ρ r.v) w := by
  unfold typeAssertQ at h
  split at h
  · rename_i row t v hr
    have hk := hT a row hr
    have hd := hk.desc w
    split at h
    · exact (h.bad).elim
    · rename_i d hni
      have key : ∀ d, (∀ ms, d ≠ .interface ms) → (underlying a).run P w = .ok d w → (Instr.typeAssert (.iface t (den ρ v)) xt a ok).run P w =
          (if t = a then (if ok then .ok (.tuple #[den ρ v, .bool true]) w else .ok (den ρ v) w) else if ok then .ok (.tuple #[den ρ row.zero, .bool false]) w else
            (runtimePanic (.typeAssertion (some xt) (some t) a "")).run P w) := by
        intro d hn hd
        unfold Instr.typeAssert
        simp only [Sem.run_bind, hd, Result.andThen_ok]
        cases d <;> first
          | (exact absurd rfl (hn _))
          | (by_cases e : t = a <;> cases ok <;> simp [e, hk.zero w ρ])
      have key' := key row.desc hni hd
      have hz : LV.ok p row.zero = true := LV.ok_mono (fun n hn => absurd (lt_iff.1 hn) (Nat.not_lt_zero n)) _ hk.closed
      split at h
      · rename_i e
        cases h.ret
        refine ⟨.mk' (by simp only [LV.ok, okL, Bool.and_true] at hx ⊢; exact hx), ?_⟩
        show (Instr.typeAssert (.iface t (den ρ v)) xt a true).run P w = _
        rw [key', if_pos (Nat.eq_of_beq_eq_true e)]; rfl
      · rename_i e
        cases h.ret
        refine ⟨.mk' hx, ?_⟩
        show (Instr.typeAssert (.iface t (den ρ v)) xt a false).run P w = _
        rw [key', if_pos (Nat.eq_of_beq_eq_true e)]; rfl
      · rename_i e
        cases h.ret
        refine ⟨.mk' (by simp only [LV.ok, okL, Bool.and_true]; exact hz), ?_⟩
        show (Instr.typeAssert (.iface t (den ρ v)) xt a true).run P w = _
        rw [key', if_neg (Nat.ne_of_beq_eq_false e)]; rfl
      · exact (h.bad).elim
  · exact (h.bad).elim

theorem len_ok (hT : TyOk P E) {nx : Nat} {t rt : TypeId} {x : LV} {r : Rs A} (h : Gives H (lenQ E nx t x) r) (ρ : Nat → Bk) (w : World) :
    Quiet p nx r ∧ (Builtin.len_ #[t] rt #[den ρ x]).run P w = .ok (den ρ r.v) w := by
  unfold lenQ at h
  split at h <;> first
    | exact (h.bad).elim
    | (rename_i hd
       cases h.ret
       exact ⟨.mk' rfl, by simp [Builtin.len_, descT_run hT hd w, den, goInt]⟩)

theorem max_ok {x y v : LV} (h : maxLV x y = some v) (rt : TypeId) (ts : Array TypeId) (ρ : Nat → Bk) (w : World) :
    LV.ok p v = true ∧ (Builtin.max_ ts rt #[den ρ x, den ρ y]).run P w = .ok (den ρ v) w := by
  unfold maxLV at h
  split at h
  · cases h; exact ⟨rfl, by simp [Builtin.max_, den, Builtin.max2]⟩
  · cases h
theorem min_ok {x y v : LV} (h : minLV x y = some v) (rt : TypeId) (ts : Array TypeId) (ρ : Nat → Bk) (w : World) :
    LV.ok p v = true ∧ (Builtin.min_ ts rt #[den ρ x, den ρ y]).run P w = .ok (den ρ v) w := by
  unfold minLV at h
  split at h
  · cases h; exact ⟨rfl, by simp [Builtin.min_, den, Builtin.min2]⟩
  · cases h

theorem indexAddr_ok (hT : TyOk P E) {nx : Nat} {t : TypeId} {x i : LV} {r : Rs A} (h : Gives H (indexAddrQ E nx t x i) r) (hx : LV.ok p x = true) (ρ : Nat → Bk) (w : World) :
    Quiet p nx r ∧ (Instr.indexAt t (den ρ x) (den ρ i)).run P w = .ok (den ρ r.v) w := by
  unfold indexAddrQ at h
  split at h
  · rename_i z
    split at h
    · rename_i e hd
      split at h
      · exact (h.bad).elim
      · rename_i s hs
        have hd' := descT_run hT hd w
        have hs' := sizeT_run hT hs w
        split at h
        · rename_i n sz o len cap
          split at h
          · rename_i hsz
            have hsz : sz = s := by simpa using hsz
            subst hsz
            rcases h.br with ⟨hc, h⟩ | ⟨hc, h⟩
            · cases h.ret
              simp only [decide_eq_true_eq] at hc
              refine ⟨.mk' hx, ?_⟩
              simp only [Instr.indexAt, den, asIntOf, Sem.run_bind, Sem.run_pure, Result.andThen_ok, hd']
              simp [hc, hs', add_none, Nat.add_mul, Nat.add_assoc]
            · exact (h.bad).elim
          · exact (h.bad).elim
        · rename_i n len
          rcases h.br with ⟨hc, h⟩ | ⟨hc, h⟩
          · cases h.ret
            simp only [decide_eq_true_eq] at hc
            refine ⟨.mk' hx, ?_⟩
            simp only [Instr.indexAt, den, asIntOf, Sem.run_bind, Sem.run_pure, Result.andThen_ok, hd']
            simp [hc, hs', add_none, Nat.add_mul, Nat.add_assoc]
          · exact (h.bad).elim
        · exact (h.bad).elim
    · rename_i len e hd
      split at h
      · exact (h.bad).elim
      · rename_i s hs
        have hd' := descT_run hT hd w
        have hs' := sizeT_run hT hs w
        split at h
        · rename_i n o
          rcases h.br with ⟨hc, h⟩ | ⟨hc, h⟩
          · cases h.ret
            simp only [decide_eq_true_eq] at hc
            refine ⟨.mk' hx, ?_⟩
            simp only [Instr.indexAt, den, asIntOf, Sem.run_bind, Sem.run_pure, Result.andThen_ok, hd', Instr.sureAddr]
            simp [hc, hs', add_none, Nat.add_mul, Nat.add_assoc]
          · exact (h.bad).elim
        · rename_i n sz i
          split at h
          · rename_i hsz
            have hsz : sz = s := by simpa using hsz
            subst hsz
            rcases h.br with ⟨hc, h⟩ | ⟨hc, h⟩
            · cases h.ret
              simp only [decide_eq_true_eq] at hc
              refine ⟨.mk' hx, ?_⟩
              simp only [Instr.indexAt, den, asIntOf, Sem.run_bind, Sem.run_pure, Result.andThen_ok, hd', Instr.sureAddr]
              simp [hc, hs', add_none, Nat.add_mul, Nat.add_assoc]
            · exact (h.bad).elim
          · exact (h.bad).elim
        · exact (h.bad).elim
    · exact (h.bad).elim
  · exact (h.bad).elim

theorem index_ok (hT : TyOk P E) {nx : Nat} {t : TypeId} {x i : LV} {r : Rs A} (h : Gives H (indexQ E nx t x i) r) (hx : LV.ok p x = true) (ρ : Nat → Bk) (w : World) :
    Quiet p nx r ∧ (Instr.index t (den ρ x) (den ρ i)).run P w = .ok (den ρ r.v) w := by
  unfold indexQ at h
  split at h
  · rename_i len e l z hd
    split at h
    · rename_i s hs
      rcases h.br with ⟨hc, h⟩ | ⟨hc, h⟩
      · split at h
        · rename_i v hv
          cases h.ret
          simp only [decide_eq_true_eq] at hc
          refine ⟨.mk' (partOf_ok hv hx), ?_⟩
          simp only [Instr.index, den, asIntOf, Sem.run_bind, Sem.run_pure, Result.andThen_ok, descT_run hT hd w]
          simp [hc, sizeT_run hT hs w, partOf_run hT hv]
        · exact (h.bad).elim
      · exact (h.bad).elim
    · exact (h.bad).elim
  · exact (h.bad).elim
end
end Go.Sx

/- What the symbolic executor's operations mean: loads, stores, new variables. No condition. -/
set_option linter.unusedVariables false
set_option linter.unusedSimpArgs false
namespace Go.Sx

section
variable {A : Type} {P : Program} {body : A → List (Option (LO A))} {amb : Amb} {H : Nat → Option (LO A)} {E : Env A} {q : Nat → Bool} {ρ : Nat → Bk} {w : World} {pt : Nat → Hp}

theorem SatP.cells_at (hs : SatP body amb H q ρ w pt) {n : Nat} {l : List LV} {t : TypeId} (hn : H n = some (.cells l t)) :
    q n = true ∧ okL q l = true ∧ (ρ n).o = 0 ∧ pt n = Hp.one (ρ n).b (.cells (denL ρ l).toArray t) ∧ w.heap[(ρ n).b]? = some (.cells (denL ρ l).toArray t) := by
  obtain ⟨h1, h2, h3⟩ := hs.den n _ hn
  generalize hc : LO.cells (A := A) l t = c at h3
  generalize hp : pt n = p at h3
  cases h3 with
  | cells ho =>
    cases hc
    exact ⟨h1, h2, ho, by rw [denL_eq], hs.heap n _ _ (by rw [hp, denL_eq]; simp)⟩
  | _ => cases hc

theorem SatP.arr_at (hs : SatP body amb H q ρ w pt) {n : Nat} {r : Rows} {t : TypeId} (hn : H n = some (.arr r t)) :
    q n = true ∧ r.ok q = true ∧ (ρ n).o = 0 ∧ r.wf = true ∧ pt n = Hp.one (ρ n).b (.cells (denL ρ r.cells).toArray t) ∧ w.heap[(ρ n).b]? = some (.cells (denL ρ r.cells).toArray t) := by
  obtain ⟨h1, h2, h3⟩ := hs.den n _ hn
  generalize hc : LO.arr (A := A) r t = c at h3
  generalize hp : pt n = p at h3
  cases h3 with
  | arr ho hw =>
    cases hc
    exact ⟨h1, h2, ho, hw, by rw [denL_eq], hs.heap n _ _ (by rw [hp, denL_eq]; simp)⟩
  | _ => cases hc

theorem SatP.vec_at (hs : SatP body amb H q ρ w pt) {n : Nat} {r : Rows} {t : TypeId} (hn : H n = some (.vec r t)) :
    q n = true ∧ r.ok q = true ∧ ∃ pre post : List Value, (ρ n).o = pre.length ∧ r.wf = true ∧ (ρ n).c * r.size ≤ post.length + r.len * r.size ∧ r.len ≤ (ρ n).c ∧
      pt n = Hp.one (ρ n).b (.cells (pre ++ (denL ρ r.cells ++ post)).toArray t) ∧ w.heap[(ρ n).b]? = some (.cells (pre ++ (denL ρ r.cells ++ post)).toArray t) := by
  obtain ⟨h1, h2, h3⟩ := hs.den n _ hn
  generalize hc : LO.vec (A := A) r t = c at h3
  generalize hp : pt n = p at h3
  cases h3 with
  | vec pre post ho hw hcap hl =>
    cases hc
    exact ⟨h1, h2, pre, post, ho, hw, hcap, hl, by rw [denL_eq], hs.heap n _ _ (by rw [hp, denL_eq]; simp)⟩
  | _ => cases hc

theorem cell_of_heap {b o : Nat} {c : Array Value} {t : TypeId} {fz : Nat × Nat} (h : w.heap[b]? = some (.cells c t fz)) : w.cell? ⟨b, o, none⟩ = c[o]? := by
  simp [World.cell?, h]

theorem run_loadVar_one {t : TypeId} {r : Row} (hr : RowOk P t r) (ha : r.agg = false) {a : Addr} {v : Value} (hc : w.cell? a = some v) : (loadVar t a).run P w = .ok v w := by
  have h1 := hr.agg w
  rw [ha] at h1
  simp [loadVar, h1, hc]

theorem run_loadVar_agg {t : TypeId} {r : Row} (hr : RowOk P t r) (ha : r.agg = true) {a : Addr} {cs : List Value} (hl : cs.length = r.size)
    (h : ∀ (j : Nat) v, cs[j]? = some v → w.cell? (a.add j) = some v) : (loadVar t a).run P w = .ok (.agg cs.toArray) w := by
  have h1 := hr.agg w
  rw [ha] at h1
  have h2 := run_loadCells_list (P := P) w a cs h
  rw [hl] at h2
  simp [loadVar, h1, hr.size w, h2]

/-- Loading a part of a variable that lies in cells. -/
theorem run_load_part (hT : TyOk P E) {t t' : TypeId} {l : List LV} {o b : Nat} {v : LV} (hv : partOf E t l o = some v) (hb : w.heap[b]? = some (.cells (denL ρ l).toArray t')) :
    (loadVar t ⟨b, o, none⟩).run P w = .ok (den ρ v) w := by
  unfold partOf at hv
  split at hv
  · cases hv
  · rename_i r hr
    have hk := hT t r hr
    split at hv
    · rename_i ha
      split at hv
      · rename_i hle
        cases hv
        simp only [den]
        refine run_loadVar_agg hk ha ?_ ?_
        · rw [denL_length]; simp; omega
        · intro j v hj
          rw [add_none, cell_of_heap hb]
          rw [denL_getElem?, List.getElem?_take] at hj
          split at hj
          · rw [List.getElem?_toArray, denL_getElem?]
            rw [List.getElem?_drop] at hj
            exact hj
          · cases hj
      · cases hv
    · rename_i ha
      refine run_loadVar_one hk ha ?_
      rw [cell_of_heap hb, List.getElem?_toArray, denL_getElem?, hv]
      rfl

theorem Rows.cell_spec {r : Rows} (hw : r.wf = true) {i j : Nat} (hi : i < r.len) (hj : j < r.size) : r.cells[i * r.size + j]? = some (r.cell i j) := by
  cases r with
  | ints l =>
    simp only [Rows.size] at hj
    have : j = 0 := by omega
    subst this
    simp only [Rows.len] at hi
    simp [Rows.cells, Rows.cell, Rows.size, hi, List.getElem?_eq_getElem hi]
  | bools l =>
    simp only [Rows.size] at hj
    have : j = 0 := by omega
    subst this
    simp only [Rows.len] at hi
    simp [Rows.cells, Rows.cell, Rows.size, hi, List.getElem?_eq_getElem hi]
  | pairs l =>
    simp only [Rows.size] at hj
    simp only [Rows.len] at hi
    simp only [Rows.cells, Rows.size]
    have key : ∀ (l : List (Int × Int)) (i : Nat), i < l.length → (l.flatMap fun p => [LV.int .i64 p.1, LV.int .i64 p.2])[i * 2]? = some (.int .i64 (l.getD i (0, 0)).1) ∧
        (l.flatMap fun p => [LV.int .i64 p.1, LV.int .i64 p.2])[i * 2 + 1]? = some (.int .i64 (l.getD i (0, 0)).2) := by
      intro l
      induction l with
      | nil => intro i h; simp at h
      | cons x l ih =>
        intro i h
        cases i with
        | zero => simp
        | succ i =>
          have := ih i (by simpa using h)
          have e1 : (i + 1) * 2 = i * 2 + 1 + 1 := by omega
          have e2 : (i + 1) * 2 + 1 = i * 2 + 1 + 1 + 1 := by omega
          simp only [List.flatMap_cons, e1, e2, List.cons_append, List.nil_append, List.getElem?_cons_succ, List.getD_cons_succ]
          exact this
    have := key l i hi
    cases j with
    | zero => exact this.1
    | succ j =>
      have : j = 0 := by omega
      subst this
      exact (key l i hi).2
  | lvs sz l =>
    simp only [Rows.size] at hj
    simp only [Rows.len] at hi
    simp only [Rows.wf, List.all_eq_true, beq_iff_eq] at hw
    simp only [Rows.cells, Rows.size, Rows.cell]
    have key : ∀ (l : List (List LV)) (i : Nat), (∀ x ∈ l, x.length = sz) → i < l.length → l.flatten[i * sz + j]? = some ((l.getD i []).getD j .undef) := by
      intro l
      induction l with
      | nil => intro i _ h; simp at h
      | cons x l ih =>
        intro i hx h
        have hlx := hx x (by simp)
        cases i with
        | zero => simp [List.getElem?_append, hlx, hj, List.getElem?_eq_getElem (show j < x.length by omega)]
        | succ i =>
          have := ih i (fun y hy => hx y (by simp [hy])) (by simpa using h)
          have e1 : (i + 1) * sz + j = i * sz + j + sz := by rw [Nat.add_mul]; omega
          rw [e1, List.flatten_cons, List.getElem?_append_right (by omega), hlx, show i * sz + j + sz - sz = i * sz + j from by omega]
          simpa using this
    exact key l i hw hi

theorem Rows.cells_length {r : Rows} (hw : r.wf = true) : r.cells.length = r.len * r.size := by
  cases r with
  | ints l => simp [Rows.cells, Rows.len, Rows.size]
  | bools l => simp [Rows.cells, Rows.len, Rows.size]
  | pairs l =>
    simp only [Rows.cells, Rows.len, Rows.size]
    clear hw
    induction l with
    | nil => rfl
    | cons x l ih => simp only [List.flatMap_cons, List.length_append, List.length_cons, List.length_nil, ih]; omega
  | lvs sz l =>
    simp only [Rows.wf, List.all_eq_true, beq_iff_eq] at hw
    simp only [Rows.cells, Rows.len, Rows.size]
    induction l with
    | nil => simp
    | cons x l ih =>
      simp only [List.flatten_cons, List.length_append, List.length_cons, ih (fun y hy => hw y (by simp [hy])), hw x (by simp), Nat.add_mul]
      omega

theorem Rows.cell_ok {r : Rows} (hw : r.wf = true) (hr : r.ok q = true) {i j : Nat} (hi : i < r.len) (hj : j < r.size) : LV.ok q (r.cell i j) = true :=
  okL_getElem? (Rows.ok_cells hr) (Rows.cell_spec hw hi hj)

/-- The outcome of an operation that gives a value. -/
def OutV (body : A → List (Option (LO A))) (amb : Amb) (H : Nat → Option (LO A)) (q : Nat → Bool) (ρ : Nat → Bk) (nb : Nat) (r : Rs A) (res : Result Value) : Prop :=
  ∀ q', Sub q q' → (∀ j, nb ≤ j → j < r.nx → q' j = true) → (∀ j, nb ≤ j → j < r.nx → q j = false) →
    ∃ ρ' w', res = .ok (den ρ' r.v) w' ∧ Agree q ρ ρ' ∧ LV.ok q' r.v = true ∧ Sat body amb (hov r.us H) q' ρ' w'
/-- The outcome of one that gives none. -/
def OutU (body : A → List (Option (LO A))) (amb : Amb) (H : Nat → Option (LO A)) (q : Nat → Bool) (ρ : Nat → Bk) (nb : Nat) (r : Rs A) (res : Result Unit) : Prop :=
  r.v = .undef ∧ ∀ q', Sub q q' → (∀ j, nb ≤ j → j < r.nx → q' j = true) → (∀ j, nb ≤ j → j < r.nx → q j = false) →
    ∃ ρ' w', res = .ok () w' ∧ Agree q ρ ρ' ∧ Sat body amb (hov r.us H) q' ρ' w'

theorem SatP.sub (hs : SatP body amb H q ρ w pt) {q' : Nat → Bool} (h : Sub q q') : Sat body amb H q' ρ w := ⟨pt, hs.more (Agree.refl _ _) h rfl ⟨rfl, rfl, rfl⟩⟩

theorem Quiet.out (hs : SatP body amb H q ρ w pt) {nb : Nat} {r : Rs A} {res : Result Value} (hq : Quiet q nb r) (h : res = .ok (den ρ r.v) w) : OutV body amb H q ρ nb r res := by
  intro q' hsub _ _
  obtain ⟨h1, h2, h3⟩ := hq
  refine ⟨ρ, w, h, Agree.refl _ _, LV.ok_mono hsub _ h3, ?_⟩
  rw [h1]
  exact hs.sub hsub

/-- A row of cells is written anew. -/
theorem SatP.setRow (hs : SatP body amb H q ρ w pt) {n b : Nat} {cs cs' : Array Value} {t : TypeId} (hp : pt n = Hp.one b (.cells cs t)) (hqn : q n = true)
    {c' : LO A} (hc : LO.ok q c' = true) (hd : Den body amb.R ρ n c' (Hp.one b (.cells cs' t))) : SatP body amb (upd H n (some c')) q ρ (w.setRow b cs') (fun x => if x = n then Hp.one b (.cells cs' t) else pt x) := by
  have hb : w.heap[b]? = some (.cells cs t) := hs.heap n b _ (by rw [hp]; simp)
  refine hs.put n _ (some c') (Agree.refl _ _) (Sub.refl _) (fun c h => by cases h; exact ⟨hqn, hc, hd⟩) (fun h => by cases h) ?_ ?_ ?_ ⟨rfl, rfl, rfl⟩
  · intro x hx
    have := Hp.one_ne hx
    subst this
    left; rw [hp]; simp
  · intro x o hx
    obtain ⟨rfl, rfl⟩ := Hp.one_some hx
    exact setRow_heap w x cs cs' t (0, 0) hb
  · intro x o hx hw
    have hne : x ≠ b := by
      rintro rfl
      rw [hp] at hx; simp at hx
    rw [setRow_other _ _ _ _ hne]; exact hw

/-- A new block. -/
theorem SatP.alloc (hs : SatP body amb H q ρ w pt) {n : Nat} (hqn : q n = false) {q' : Nat → Bool} (hsub : Sub q q') (hq' : q' n = true) {ρ' : Nat → Bk} (hag : Agree q ρ ρ')
    {c' : LO A} (hc : LO.ok q' c' = true) {o : Obj} (hd : Den body amb.R ρ' n c' (Hp.one w.heap.size o)) :
    SatP body amb (upd H n (some c')) q' ρ' (w.alloc o) (fun x => if x = n then Hp.one w.heap.size o else pt x) := by
  have hn : H n = none := by
    cases h : H n with
    | none => rfl
    | some c => have := (hs.den n c h).1; rw [hqn] at this; cases this
  refine hs.put n _ (some c') hag hsub (fun c h => by cases h; exact ⟨hq', hc, hd⟩) (fun h => by cases h) ?_ ?_ ?_ ⟨rfl, rfl, rfl⟩
  · intro x hx
    have := Hp.one_ne hx
    subst this
    right; exact hs.fresh (by simp)
  · intro x o' hx
    obtain ⟨rfl, rfl⟩ := Hp.one_some hx
    show (w.heap.push o')[w.heap.size]? = _
    simp
  · intro x o' _ hw
    have hlt : x < w.heap.size := (Array.getElem?_eq_some_iff.1 hw).1
    show (w.heap.push o)[x]? = _
    rw [Array.getElem?_push, if_neg (by omega)]; exact hw

def setBk (ρ : Nat → Bk) (n : Nat) (k : Bk) : Nat → Bk := fun x => if x = n then k else ρ x
theorem setBk_same (ρ : Nat → Bk) (n : Nat) (k : Bk) : setBk ρ n k n = k := if_pos rfl
theorem setBk_agree {q : Nat → Bool} {ρ : Nat → Bk} {n : Nat} {k : Bk} (h : q n = false) : Agree q ρ (setBk ρ n k) := by
  intro x hx
  refine if_neg ?_
  rintro rfl
  rw [h] at hx; cases hx

theorem Den.abs_any {R : Hp} {ρ₁ ρ₂ : Nat → Bk} {n₁ n₂ : Nat} {a : A} {p : Hp} (h : Den body R ρ₁ n₁ (.abs a []) p) (e : ρ₂ n₂ = ρ₁ n₁) : Den body R ρ₂ n₂ (.abs a []) p := by
  generalize hc : LO.abs (A := A) a [] = c at h
  cases h with
  | abs h0 ho himp pt p hok hpt hz hu =>
    cases hc
    exact .abs (by rw [h0, e]) (by rw [e]; exact ho) (fun k i x _ hx => by simp at hx) pt p hok hpt hz hu
  | _ => cases hc

theorem Den.abs_o {R : Hp} {ρ : Nat → Bk} {n : Nat} {a : A} {imps : List Nat} {p : Hp} (h : Den body R ρ n (.abs a imps) p) : (ρ n).o = 0 := by
  generalize hc : LO.abs (A := A) a imps = c at h
  cases h with
  | abs h0 ho => exact ho
  | _ => cases hc

/-- The first thing of a slice of things gets a name of its own. -/
theorem SatP.takeFirst (hs : SatP body amb H q ρ w pt) {n nb : Nat} {a : A} {l : List A} {t : TypeId} (hn : H n = some (.avec (a :: l) t none)) (hnb : q nb = false)
    {q' : Nat → Bool} (hsub : Sub q q') (hq' : q' nb = true) :
    ∃ ρ', Agree q ρ ρ' ∧ Sat body amb (upd (upd H n (some (.avec (a :: l) t (some nb)))) nb (some (.abs a []))) q' ρ' w ∧
      w.cell? ⟨(ρ n).b, (ρ n).o, none⟩ = some (.pointer (some ⟨(ρ' nb).b, 0, none⟩)) ∧ (ρ' nb).o = 0 := by
  obtain ⟨hqn, hok, hd⟩ := hs.den n _ hn
  generalize hc : LO.avec (A := A) (a :: l) t none = c at hd
  generalize hp : pt n = p at hd
  cases hd with
  | avec pre post ho hcap ρs pts p hpt hz hh hob hu =>
    cases hc
    have hne : nb ≠ n := by rintro rfl; rw [hnb] at hqn; cases hqn
    have hag : Agree q ρ (setBk ρ nb (ρs 0 0)) := setBk_agree hnb
    refine ⟨setBk ρ nb (ρs 0 0), hag, ?_, ?_, ?_⟩
    · let p' : Hp := fun b => if pts 0 b = none then p b else none
      have h1 := hs.put n p' (some (.avec (a :: l) t (some nb))) (q' := q') (ρ' := setBk ρ nb (ρs 0 0)) (w' := w) hag hsub
        (fun c hc => by
          cases hc
          refine ⟨hsub _ hqn, by simpa [LO.ok] using hq', ?_⟩
          refine Den.avec pre post ?_ ?_ ρs (fun i => if i = 0 then Hp.none else pts i) p' ?_ ?_ ?_ hob ⟨?_, ?_, ?_⟩
          · rw [hag n hqn]; exact ho
          · rw [hag n hqn]; exact hcap
          · intro i a' hi h0
            by_cases e : i = 0
            · cases h0 e
            · simp only [if_neg e]; exact hpt i a' hi (fun _ => rfl)
          · intro i hi b
            by_cases e : i = 0
            · simp only [if_pos e]; rfl
            · simp only [if_neg e]
              exact hz i (hi.imp id fun h => absurd h.1 e) b
          · intro m hm
            cases hm
            refine ⟨by simp, ?_, ?_⟩ <;> rw [setBk_same]
          · intro b o h
            have h' : (if pts 0 b = none then p b else none) = some o := h
            split at h'
            · rename_i h0
              obtain ⟨i, hi⟩ := hu.to b o h'
              refine ⟨i, ?_⟩
              by_cases e : i = 0
              · simp only [if_pos e] at hi ⊢
                rw [hag n hqn]; exact hi
              · simp only [if_neg e] at hi ⊢
                by_cases e1 : i - 1 = 0
                · rw [e1, h0] at hi; cases hi
                · simp only [if_neg e1]; exact hi
            · cases h'
          · intro i b o h
            show (if pts 0 b = none then p b else none) = some o
            by_cases e : i = 0
            · simp only [if_pos e] at h
              rw [hag n hqn] at h
              have h1 := hu.of 0 b o (by simpa using h)
              have h2 := hu.apart 0 1 b (by omega) (by simp only [if_true]; rw [h]; exact fun e => by cases e)
              rw [if_pos (by simpa using h2)]; exact h1
            · simp only [if_neg e] at h
              by_cases e1 : i - 1 = 0
              · simp only [if_pos e1] at h; cases h
              · simp only [if_neg e1] at h
                have h1 := hu.of i b o (by simpa only [if_neg e] using h)
                have h2 := hu.apart i 1 b (by omega) (by simp only [if_neg e]; rw [h]; simp)
                rw [if_pos (by simpa using h2)]; exact h1
          · intro i j b hij h
            have mono : ∀ i, (if i = 0 then Hp.one (setBk ρ nb (ρs 0 0) n).b (.cells (pre ++ ((List.range (a :: l).length).map (fun i => Value.pointer (some ⟨(ρs i 0).b, 0, none⟩)) ++ post)).toArray t) else (if i - 1 = 0 then Hp.none else pts (i - 1))) b ≠ none →
                (if i = 0 then Hp.one (ρ n).b (.cells (pre ++ ((List.range (a :: l).length).map (fun i => Value.pointer (some ⟨(ρs i 0).b, 0, none⟩)) ++ post)).toArray t) else pts (i - 1)) b ≠ none := by
              intro i h
              by_cases e : i = 0
              · simp only [if_pos e] at h ⊢; rw [hag n hqn] at h; exact h
              · simp only [if_neg e] at h ⊢
                by_cases e1 : i - 1 = 0
                · simp only [if_pos e1] at h; exact absurd rfl h
                · simp only [if_neg e1] at h; exact h
            cases hq : (if j = 0 then Hp.one (setBk ρ nb (ρs 0 0) n).b (.cells (pre ++ ((List.range (a :: l).length).map (fun i => Value.pointer (some ⟨(ρs i 0).b, 0, none⟩)) ++ post)).toArray t) else (if j - 1 = 0 then Hp.none else pts (j - 1))) b with
            | none => rfl
            | some o => exact absurd (hu.apart i j b hij (mono i h)) (mono j (by rw [hq]; simp)))
        (fun h => by cases h)
        (fun b hb => .inl (by
          have hb' : (if pts 0 b = none then p b else none) ≠ none := hb
          split at hb'
          · rw [hp]; exact hb'
          · exact absurd rfl hb'))
        (fun b o h => by
          have h' : (if pts 0 b = none then p b else none) = some o := h
          split at h'
          · exact hs.heap n b o (by rw [hp]; exact h')
          · cases h')
        (fun b o _ h => h) ⟨rfl, rfl, rfl⟩
      have hp0 : ∀ b o, pts 0 b = some o → p b = some o := fun b o h => hu.of 1 b o (by simpa using h)
      have hHnb : H nb = none := by
        cases hx : H nb with
        | none => rfl
        | some c => have := (hs.den nb c hx).1; rw [hnb] at this; cases this
      have h2 := h1.put nb (pts 0) (some (.abs a [])) (q' := q') (ρ' := setBk ρ nb (ρs 0 0)) (w' := w) (Agree.refl _ _) (Sub.refl _)
        (fun c hc => by
          cases hc
          refine ⟨hq', rfl, ?_⟩
          exact Den.abs_any (hpt 0 a (by simp) (fun _ => rfl)) (setBk_same _ _ _))
        (fun h => by cases h)
        (fun b hb => .inr ⟨fun m => by
          have hpn : pt n b ≠ none := by
            rw [hp]
            cases hq : pts 0 b with
            | none => exact absurd hq hb
            | some o => rw [hp0 b o hq]; simp
          by_cases e : m = n
          · simp only [if_pos e]
            show (if pts 0 b = none then p b else none) = none
            rw [if_neg hb]
          · simp only [if_neg e]
            exact hs.apart n m b (fun e' => e e'.symm) hpn, by
          refine hs.out n b ?_
          rw [hp]
          cases hq : pts 0 b with
          | none => exact absurd hq hb
          | some o => rw [hp0 b o hq]; simp⟩)
        (fun b o h => hs.heap n b o (by rw [hp]; exact hp0 b o h))
        (fun b o _ h => h) ⟨rfl, rfl, rfl⟩
      exact ⟨_, h2⟩
    · have hb := hs.heap n (ρ n).b _ (by rw [hp]; exact hu.of 0 _ _ (by simp only [if_true]; exact Hp.one_self _ _))
      rw [cell_of_heap hb, ho, List.getElem?_toArray, List.getElem?_append_right (Nat.le_refl _), Nat.sub_self, setBk_same]
      simp [List.range_succ_eq_map]
    · rw [setBk_same]; exact hob 0
  | _ => cases hc

theorem load_ok (hT : TyOk P E) (hs : SatP body amb H q ρ w pt) {nb : Nat} {t : TypeId} {a : LV} {r : Rs A} (h : Gives H (loadQ E nb t a) r) (ha : LV.ok q a = true) :
    OutV body amb H q ρ nb r ((Instr.loadAt t (den ρ a)).run P w) := by
  unfold loadQ at h
  split at h
  · -- cells
    rename_i n o
    replace h := h.get
    split at h
    · rename_i l t' hn
      split at h
      · rename_i v hv
        cases h.ret
        obtain ⟨h1, h2, h3, _, h5⟩ := hs.cells_at hn
        refine Quiet.out hs (.mk' (partOf_ok hv h2)) ?_
        simp only [Instr.loadAt, den, Instr.sureAddr, Sem.run_bind, Sem.run_pure, Result.andThen_ok, h3, Nat.zero_add]
        exact run_load_part hT hv h5
      · exact (h.bad).elim
    · exact (h.bad).elim
  · -- an element
    rename_i n sz i j
    replace h := h.get
    split at h
    · rename_i hagg
      have hrow : ∃ r, E.ty t = some r ∧ r.agg = false := by
        unfold aggT at hagg
        split at hagg
        · rename_i r hr; exact ⟨r, hr, Option.some.inj hagg⟩
        · cases hagg
      obtain ⟨row, hrow, hagg⟩ := hrow
      have hk := hT t row hrow
      have fin : ∀ {v : LV} {nx : Nat}, w.cell? ⟨(ρ n).b, (ρ n).o + (i * sz + j), none⟩ = some (den ρ v) →
          (Instr.loadAt t (den ρ (.pe n sz i j))).run P w = .ok (den ρ v) w := by
        intro v nx hc
        simp only [Instr.loadAt, den, Instr.sureAddr, Sem.run_bind, Sem.run_pure, Result.andThen_ok]
        exact run_loadVar_one hk hagg hc
      split at h
      · rename_i rw' t' hn
        split at h
        · rename_i hg
          simp only [Bool.and_eq_true, beq_iff_eq, decide_eq_true_eq] at hg
          obtain ⟨rfl, hj⟩ := hg
          rcases h.br with ⟨hc, h⟩ | ⟨hc, h⟩
          · cases h.ret
            simp only [decide_eq_true_eq] at hc
            obtain ⟨h1, h2, h3, h4, _, h5⟩ := hs.arr_at hn
            refine Quiet.out hs (.mk' (Rows.cell_ok h4 h2 hc hj)) (fin (nx := 0) ?_)
            rw [cell_of_heap h5, h3, Nat.zero_add, List.getElem?_toArray, denL_getElem?, Rows.cell_spec h4 hc hj]; rfl
          · exact (h.bad).elim
        · exact (h.bad).elim
      · rename_i rw' t' hn
        split at h
        · rename_i hg
          simp only [Bool.and_eq_true, beq_iff_eq, decide_eq_true_eq] at hg
          obtain ⟨rfl, hj⟩ := hg
          rcases h.br with ⟨hc, h⟩ | ⟨hc, h⟩
          · cases h.ret
            simp only [decide_eq_true_eq] at hc
            obtain ⟨h1, h2, pre, post, h3, h4, hcap, hl, _, h5⟩ := hs.vec_at hn
            refine Quiet.out hs (.mk' (Rows.cell_ok h4 h2 hc hj)) (fin (nx := 0) ?_)
            have hlen := Rows.cells_length h4
            have hlt : i * rw'.size + j < rw'.cells.length := by
              rw [hlen]
              have : (i + 1) * rw'.size ≤ rw'.len * rw'.size := Nat.mul_le_mul_right _ hc
              rw [Nat.add_mul] at this; omega
            rw [cell_of_heap h5, h3, List.getElem?_toArray, List.getElem?_append_right (by omega), Nat.add_sub_cancel_left,
              List.getElem?_append_left (by rw [denL_length]; exact hlt), denL_getElem?, Rows.cell_spec h4 hc hj]; rfl
          · exact (h.bad).elim
        · exact (h.bad).elim
      · rename_i l hn
        split at h
        · rename_i hg
          simp only [Bool.and_eq_true, beq_iff_eq] at hg
          obtain ⟨rfl, rfl⟩ := hg
          rcases h.br with ⟨hc, h⟩ | ⟨hc, h⟩
          · cases h.ret
            simp only [decide_eq_true_eq] at hc
            obtain ⟨h1, h2, h3⟩ := hs.den n _ hn
            generalize hcc : LO.roI (A := A) l = c at h3
            generalize hpp : pt n = pp at h3
            cases h3 with
            | roI h' =>
              cases hcc
              rcases h' with rfl | ⟨cs, t0, fz, hO, hv⟩
              · simp at hc
              · refine Quiet.out hs (.mk' rfl) (fin (nx := 0) ?_)
                have := hs.old _ _ (hs.ro _ _ hO)
                rw [cell_of_heap this]
                simp only [Nat.mul_one, Nat.add_zero]
                rw [hv i _ (List.getElem?_eq_getElem hc)]
                simp [den, List.getElem?_eq_getElem hc]
            | _ => cases hcc
          · exact (h.bad).elim
        · exact (h.bad).elim
      · rename_i l hn
        split at h
        · rename_i hg
          simp only [Bool.and_eq_true, beq_iff_eq] at hg
          obtain ⟨rfl, rfl⟩ := hg
          rcases h.br with ⟨hc, h⟩ | ⟨hc, h⟩
          · cases h.ret
            simp only [decide_eq_true_eq] at hc
            obtain ⟨h1, h2, h3⟩ := hs.den n _ hn
            generalize hcc : LO.roB (A := A) l = c at h3
            generalize hpp : pt n = pp at h3
            cases h3 with
            | roB h' =>
              cases hcc
              rcases h' with rfl | ⟨cs, t0, fz, hO, hv⟩
              · simp at hc
              · refine Quiet.out hs (.mk' rfl) (fin (nx := 0) ?_)
                have := hs.old _ _ (hs.ro _ _ hO)
                rw [cell_of_heap this]
                simp only [Nat.mul_one, Nat.add_zero]
                rw [hv i _ (List.getElem?_eq_getElem hc)]
                simp [den, List.getElem?_eq_getElem hc]
            | _ => cases hcc
          · exact (h.bad).elim
        · exact (h.bad).elim
      · -- a thing of a slice of things, the first time
        rename_i a l t' hn
        split at h
        · split at h
          · rename_i hg
            simp only [Bool.and_eq_true, beq_iff_eq] at hg
            obtain ⟨rfl, rfl⟩ := hg
            cases h.ret
            intro q' hsub hq' hq
            obtain ⟨ρ', hag, hsat, hcell, ho⟩ := hs.takeFirst hn (hq nb (Nat.le_refl _) (Nat.lt_succ_self _)) hsub (hq' nb (Nat.le_refl _) (Nat.lt_succ_self _))
            refine ⟨ρ', w, ?_, hag, ?_, ?_⟩
            · simp only [Instr.loadAt, den, Instr.sureAddr, Sem.run_bind, Sem.run_pure, Result.andThen_ok, Nat.zero_mul, Nat.add_zero, ho]
              exact run_loadVar_one hk hagg hcell
            · simp only [LV.ok]; exact hq' nb (Nat.le_refl _) (Nat.lt_succ_self _)
            · rw [hov_cons, hov_one]; exact hsat
          · exact (h.bad).elim
        · exact (h.bad).elim
      · -- the first thing again
        rename_i a l t' m hn
        split at h
        · split at h
          · rename_i hg
            simp only [Bool.and_eq_true, beq_iff_eq] at hg
            obtain ⟨rfl, rfl⟩ := hg
            cases h.ret
            obtain ⟨hqn, hok, hd⟩ := hs.den n _ hn
            generalize hc : LO.avec (A := A) (a :: l) t' (some m) = c at hd
            generalize hp : pt n = pp at hd
            cases hd with
            | avec pre post ho hcap ρs pts pp hpt hz hh hob hu =>
              cases hc
              refine Quiet.out hs (.mk' (by simpa [LV.ok, LO.ok] using hok)) ?_
              obtain ⟨_, hh1, hh2⟩ := hh m rfl
              have hb := hs.heap n (ρ n).b _ (by rw [hp]; exact hu.of 0 _ _ (by simp only [if_true]; exact Hp.one_self _ _))
              have hcell : w.cell? ⟨(ρ n).b, (ρ n).o, none⟩ = some (.pointer (some ⟨(ρ m).b, 0, none⟩)) := by
                rw [cell_of_heap hb, ho, List.getElem?_toArray, List.getElem?_append_right (Nat.le_refl _), Nat.sub_self]
                simp [List.range_succ_eq_map, hh1]
              simp only [Instr.loadAt, den, Instr.sureAddr, Sem.run_bind, Sem.run_pure, Result.andThen_ok, Nat.zero_mul, Nat.add_zero]
              rw [← hh2, hob 0]
              exact run_loadVar_one hk hagg hcell
            | _ => cases hc
          · exact (h.bad).elim
        · exact (h.bad).elim
      · exact (h.bad).elim
    · rename_i hagg
      have hrow : ∃ r, E.ty t = some r ∧ r.agg = true := by
        unfold aggT at hagg
        split at hagg
        · rename_i r hr; exact ⟨r, hr, Option.some.inj hagg⟩
        · cases hagg
      obtain ⟨row, hrow, hagg⟩ := hrow
      have hk := hT t row hrow
      have fin : ∀ {l : List (Int × Int)}, row.size = 2 → (∀ j, j < 2 → w.cell? ⟨(ρ n).b, (ρ n).o + (i * 2 + j), none⟩ = some (den ρ ((Rows.pairs l).cell i j))) →
          (Instr.loadAt t (den ρ (.pe n 2 i 0))).run P w = .ok (den ρ (.agg [(Rows.pairs l).cell i 0, (Rows.pairs l).cell i 1])) w := by
        intro l hsz hc
        simp only [Instr.loadAt, den, denL, Instr.sureAddr, Sem.run_bind, Sem.run_pure, Result.andThen_ok]
        refine run_loadVar_agg (cs := [den ρ ((Rows.pairs l).cell i 0), den ρ ((Rows.pairs l).cell i 1)]) hk hagg (by rw [hsz]; rfl) ?_
        intro j v hj
        rw [add_none]
        match j, hj with
        | 0, hj => cases hj; exact hc 0 (by omega)
        | 1, hj => cases hj; exact hc 1 (by omega)
        | _ + 2, hj => simp at hj
      have hsize : ∀ {k : Nat}, (sizeT E t == some k) = true → row.size = k := by
        intro k hk
        simp only [sizeT, hrow, beq_iff_eq, Option.some.injEq] at hk
        exact hk
      split at h
      · rename_i l t' hn
        split at h
        · rename_i hg
          simp only [Bool.and_eq_true, beq_iff_eq] at hg
          obtain ⟨rfl, hg⟩ := hg
          rcases h.br with ⟨hc, h⟩ | ⟨hc, h⟩
          · cases h.ret
            simp only [decide_eq_true_eq] at hc
            obtain ⟨h1, h2, h3, h4, _, h5⟩ := hs.arr_at hn
            refine Quiet.out hs (.mk' rfl) (fin (hsize (by rw [hg]; simp)) ?_)
            intro j hj
            rw [cell_of_heap h5, h3, Nat.zero_add, List.getElem?_toArray, denL_getElem?]
            have := Rows.cell_spec (r := .pairs l) rfl (i := i) (j := j) hc hj
            simp only [Rows.size] at this
            rw [this]; rfl
          · exact (h.bad).elim
        · exact (h.bad).elim
      · rename_i l t' hn
        split at h
        · rename_i hg
          simp only [Bool.and_eq_true, beq_iff_eq] at hg
          obtain ⟨rfl, hg⟩ := hg
          rcases h.br with ⟨hc, h⟩ | ⟨hc, h⟩
          · cases h.ret
            simp only [decide_eq_true_eq] at hc
            obtain ⟨h1, h2, pre, post, h3, h4, hcap, hl, _, h5⟩ := hs.vec_at hn
            refine Quiet.out hs (.mk' rfl) (fin (hsize (by rw [hg]; simp)) ?_)
            intro j hj
            have hlen := Rows.cells_length h4
            have hlt : i * 2 + j < (Rows.pairs l).cells.length := by
              rw [hlen]
              simp only [Rows.size, Rows.len]; omega
            rw [cell_of_heap h5, h3, List.getElem?_toArray, List.getElem?_append_right (by omega), Nat.add_sub_cancel_left,
              List.getElem?_append_left (by rw [denL_length]; exact hlt), denL_getElem?]
            have := Rows.cell_spec (r := .pairs l) rfl (i := i) (j := j) hc hj
            simp only [Rows.size] at this
            rw [this]; rfl
          · exact (h.bad).elim
        · exact (h.bad).elim
      · exact (h.bad).elim
    · exact (h.bad).elim
  · exact (h.bad).elim
end
end Go.Sx

/- What the symbolic executor's operations mean: stores, new variables, parts put together. No condition. -/
set_option linter.unusedVariables false
set_option linter.unusedSimpArgs false
namespace Go.Sx

section
variable {A : Type} {P : Program} {body : A → List (Option (LO A))} {amb : Amb} {H : Nat → Option (LO A)} {E : Env A} {q : Nat → Bool} {ρ : Nat → Bk} {w : World} {pt : Nat → Hp}

theorem scalar_one {v : LV} (h : v.scalar = true) (ρ : Nat → Bk) : (den ρ v).oneCell' = true ∧ (den ρ v).cells = #[den ρ v] := by
  cases v <;> simp [LV.scalar] at h <;> exact ⟨rfl, rfl⟩

theorem cellsOf_spec {x : LV} {vs : List LV} (h : x.cellsOf = some vs) (ρ : Nat → Bk) :
    (den ρ x).cells = (denL ρ vs).toArray ∧ (∀ v ∈ denL ρ vs, v.oneCell' = true) ∧ (LV.ok q x = true → okL q vs = true) := by
  unfold LV.cellsOf at h
  split at h
  · rename_i l
    split at h
    · rename_i hl
      cases h
      refine ⟨rfl, ?_, fun h => h⟩
      intro v hv
      rw [denL_eq, List.mem_map] at hv
      obtain ⟨u, hu, rfl⟩ := hv
      exact (scalar_one (List.all_eq_true.1 hl u hu) ρ).1
    · cases h
  · split at h
    · rename_i hx
      cases h
      have := scalar_one hx ρ
      refine ⟨by simpa [denL] using this.2, by simpa [denL] using this.1, fun h => by simpa [okL] using h⟩
    · cases h

theorem storeAll_eq : ∀ (vs l : List LV) (o : Nat), o + vs.length ≤ l.length → storeAll l o vs = l.take o ++ vs ++ l.drop (o + vs.length)
  | [], l, o, h => by simp [storeAll]
  | v :: vs, l, o, h => by
    simp only [storeAll]
    rw [storeAll_eq vs (l.set o v) (o + 1) (by simp at h ⊢; omega)]
    apply List.ext_getElem?
    intro i
    simp only [List.length_cons] at h
    simp only [List.getElem?_append, List.getElem?_take, List.getElem?_set, List.getElem?_drop, List.length_take, List.length_append, List.length_set, List.length_cons]
    have e1 : min (o + 1) l.length = o + 1 := by omega
    have e2 : min o l.length = o := by omega
    simp only [e1, e2]
    by_cases h1 : i < o
    · have : ¬ o = i := by omega
      simp [h1, this, show i < o + 1 + vs.length by omega, show i < o + 1 by omega, show i < o + (vs.length + 1) by omega]
    · by_cases h2 : i = o
      · subst h2
        simp [show i < l.length by omega, show i < i + 1 + vs.length by omega]
      · by_cases h3 : i < o + 1 + vs.length
        · simp only [h3, if_true, show ¬ i < o + 1 by omega, if_false, h1, show i < o + (vs.length + 1) by omega]
          rw [show i - o = (i - (o + 1)) + 1 by omega, List.getElem?_cons_succ]
        · simp only [h3, if_false, show ¬ i < o + (vs.length + 1) by omega]
          rw [if_neg (by omega)]
          congr 1; omega

theorem storeAll_ok : ∀ (vs l : List LV) (o : Nat), okL q l = true → okL q vs = true → okL q (storeAll l o vs) = true
  | [], l, o, h, _ => h
  | v :: vs, l, o, h, h' => by
    simp only [okL, Bool.and_eq_true] at h'
    refine storeAll_ok vs (l.set o v) (o + 1) ?_ h'.2
    refine okL_of fun x hx => ?_
    rcases List.mem_or_eq_of_mem_set hx with h1 | h1
    · exact okL_mem h h1
    · rw [h1]; exact h'.1

theorem storeAll_length : ∀ (vs l : List LV) (o : Nat), (storeAll l o vs).length = l.length
  | [], l, o => rfl
  | v :: vs, l, o => by simp [storeAll, storeAll_length vs]

theorem Rows.setCell_spec {r r' : Rows} {i j : Nat} {v : LV} (h : r.setCell i j v = some r') (hw : r.wf = true) (hi : i < r.len) (hj : j < r.size) :
    r'.cells = r.cells.set (i * r.size + j) v ∧ r'.wf = true ∧ r'.len = r.len ∧ r'.size = r.size ∧ (r.ok q = true → LV.ok q v = true → r'.ok q = true) := by
  have pairs_set : ∀ (l : List (Int × Int)) (i : Nat) (x y : Int), i < l.length →
      ((l.set i (x, y)).flatMap fun p => [LV.int .i64 p.1, LV.int .i64 p.2]) = ((l.flatMap fun p => [LV.int .i64 p.1, LV.int .i64 p.2]).set (i * 2) (.int .i64 x)).set (i * 2 + 1) (.int .i64 y) := by
    intro l
    induction l with
    | nil => intro i x y h; simp at h
    | cons a l ih =>
      intro i x y h
      cases i with
      | zero => simp
      | succ i =>
        have := ih i x y (by simpa using h)
        have e1 : (i + 1) * 2 = i * 2 + 1 + 1 := by omega
        have e2 : (i + 1) * 2 + 1 = i * 2 + 1 + 1 + 1 := by omega
        simp only [List.set_cons_succ, List.flatMap_cons, e1, List.cons_append, List.nil_append]
        rw [this]
  have pairs_get : ∀ (l : List (Int × Int)) (i : Nat), i < l.length →
      (l.flatMap fun p => [LV.int .i64 p.1, LV.int .i64 p.2])[i * 2]? = some (.int .i64 (l.getD i (0, 0)).1) ∧
        (l.flatMap fun p => [LV.int .i64 p.1, LV.int .i64 p.2])[i * 2 + 1]? = some (.int .i64 (l.getD i (0, 0)).2) := by
    intro l i h
    have h0 := Rows.cell_spec (r := .pairs l) rfl (i := i) (j := 0) h (by simp [Rows.size])
    have h1 := Rows.cell_spec (r := .pairs l) rfl (i := i) (j := 1) h (by simp [Rows.size])
    exact ⟨h0, h1⟩
  have set_self : ∀ (l : List LV) (k : Nat) (u : LV), l[k]? = some u → l.set k u = l := by
    intro l k u h
    obtain ⟨hk, rfl⟩ := List.getElem?_eq_some_iff.1 h
    simp
  unfold Rows.setCell at h
  split at h
  · rename_i l _ x
    cases h
    simp only [Rows.size] at hj
    have : j = 0 := by omega
    subst this
    refine ⟨?_, rfl, by simp [Rows.len], rfl, fun _ _ => rfl⟩
    simp [Rows.cells, Rows.size, List.map_set]
  · rename_i l _ x
    cases h
    simp only [Rows.size] at hj
    have : j = 0 := by omega
    subst this
    refine ⟨?_, rfl, by simp [Rows.len], rfl, fun _ _ => rfl⟩
    simp [Rows.cells, Rows.size, List.map_set]
  · rename_i l x
    cases h
    simp only [Rows.len] at hi
    refine ⟨?_, rfl, by simp [Rows.len], rfl, fun _ _ => rfl⟩
    simp only [Rows.cells, Rows.size, Nat.add_zero]
    rw [pairs_set l i _ _ hi, set_self]
    rw [List.getElem?_set_ne (by omega)]
    exact (pairs_get l i hi).2
  · rename_i l x
    cases h
    simp only [Rows.len] at hi
    refine ⟨?_, rfl, by simp [Rows.len], rfl, fun _ _ => rfl⟩
    simp only [Rows.cells, Rows.size]
    rw [pairs_set l i _ _ hi]
    congr 1
    exact set_self _ _ _ (pairs_get l i hi).1
  · rename_i sz l
    cases h
    simp only [Rows.len] at hi
    simp only [Rows.size] at hj
    simp only [Rows.wf, List.all_eq_true, beq_iff_eq] at hw
    have hmem : l.getD i [] ∈ l := by
      rw [List.getD_eq_getElem?_getD, List.getElem?_eq_getElem hi]; exact List.getElem_mem hi
    refine ⟨?_, ?_, by simp [Rows.len], rfl, ?_⟩
    · simp only [Rows.cells, Rows.size]
      have key : ∀ (l : List (List LV)) (i : Nat), (∀ x ∈ l, x.length = sz) → i < l.length → (l.set i ((l.getD i []).set j v)).flatten = l.flatten.set (i * sz + j) v := by
        intro l
        induction l with
        | nil => intro i _ h; simp at h
        | cons x l ih =>
          intro i hx h
          have hlx := hx x (by simp)
          cases i with
          | zero => simp [List.set_append, hlx, hj]
          | succ i =>
            have := ih i (fun y hy => hx y (by simp [hy])) (by simpa using h)
            have e1 : (i + 1) * sz + j = sz + (i * sz + j) := by rw [Nat.add_mul]; omega
            simp only [List.set_cons_succ, List.flatten_cons, List.getD_cons_succ, e1]
            rw [this, List.set_append, if_neg (by omega), hlx, Nat.add_sub_cancel_left]
      exact key l i hw hi
    · simp only [Rows.wf, List.all_eq_true, beq_iff_eq]
      intro x hx
      rcases List.mem_or_eq_of_mem_set hx with h1 | h1
      · exact hw x h1
      · rw [h1, List.length_set]; exact hw _ hmem
    · intro hr hv
      simp only [Rows.ok, List.all_eq_true] at hr ⊢
      intro x hx
      rcases List.mem_or_eq_of_mem_set hx with h1 | h1
      · exact hr x h1
      · rw [h1]
        refine okL_of fun y hy => ?_
        rcases List.mem_or_eq_of_mem_set hy with h2 | h2
        · exact okL_mem (hr _ hmem) h2
        · rw [h2]; exact hv
  · cases h

theorem store_ok (hT : TyOk P E) (hs : SatP body amb H q ρ w pt) {nb : Nat} {t : TypeId} {a x : LV} {r : Rs A} (h : Gives H (storeQ E nb t a x) r) (hx : LV.ok q x = true) :
    OutU body amb H q ρ nb r ((Instr.storeAt t (den ρ a) (den ρ x)).run P w) := by
  unfold storeQ at h
  split at h
  · rename_i vs row hvs hrow
    have hk := hT t row hrow
    obtain ⟨hcells, hone, hokv⟩ := cellsOf_spec (q := q) hvs ρ
    split at h
    · rename_i hsz
      simp only [beq_iff_eq] at hsz
      have run : ∀ (ad : Addr) w', (storeCells ad (denL ρ vs)).run P w = .ok () w' → (Instr.storeAt t (.pointer (some ad)) (den ρ x)).run P w = .ok () w' := by
        intro ad w' h
        have hl : (denL ρ vs).toArray.size = row.size := by rw [List.size_toArray, denL_length, hsz]
        simp only [Instr.storeAt, Instr.sureAddr, Sem.run_bind, Sem.run_pure, Result.andThen_ok, storeVar, hcells, hk.size w, hl, ne_eq, not_true_eq_false, if_false, h]
      split at h
      · rename_i n o
        replace h := h.get
        split at h
        · rename_i l t' hn
          split at h
          · rename_i hle
            cases h.ret
            obtain ⟨h1, h2, h3, h4, h5⟩ := hs.cells_at hn
            refine ⟨rfl, fun q' hsub _ _ => ?_⟩
            have hst := run_storeCells_at P (ρ n).b o t' (denL ρ vs) 0 _ w h5 (by simp [denL_length]; omega) hone
            have e : (denL ρ l).toArray.toList.take (o + 0) ++ denL ρ vs ++ (denL ρ l).toArray.toList.drop (o + 0 + (denL ρ vs).length) = denL ρ (storeAll l o vs) := by
              rw [storeAll_eq vs l o hle]
              simp [denL_eq, List.map_take, List.map_drop]
            rw [e] at hst
            refine ⟨ρ, w.setRow (ρ n).b (denL ρ (storeAll l o vs)).toArray, ?_, Agree.refl _ _, ?_⟩
            · simp only [den, h3, Nat.zero_add]
              exact run _ _ hst
            · rw [hov_one]
              refine SatP.sub (hs.setRow h4 h1 (c' := .cells (storeAll l o vs) t') (storeAll_ok vs l o h2 (hokv hx)) ?_) hsub
              rw [denL_eq]
              exact Den.cells h3
          · exact (h.bad).elim
        · exact (h.bad).elim
      · rename_i n sz i j
        split at h
        · rename_i v
          replace h := h.get
          have run1 : ∀ {b o : Nat} {cs : List Value} {t' : TypeId}, w.heap[b]? = some (.cells cs.toArray t') → o < cs.length →
              (Instr.storeAt t (.pointer (some ⟨b, o, none⟩)) (den ρ x)).run P w = .ok () (w.setRow b (cs.set o (den ρ v)).toArray) := by
            intro b o cs t' hb ho
            have hst := run_storeCells_at P b o t' (denL ρ [v]) 0 _ w hb (by simp [denL]; omega) hone
            refine run _ _ (hst.trans ?_)
            congr 3
            simp only [denL, Nat.add_zero, List.length_cons, List.length_nil]
            rw [List.set_eq_take_append_cons_drop, if_pos ho]
            simp
          have hv : LV.ok q v = true := by have := hokv hx; simpa [okL] using this
          split at h
          · rename_i rw' t' hn
            split at h
            · rename_i hg
              simp only [Bool.and_eq_true, beq_iff_eq, decide_eq_true_eq] at hg
              obtain ⟨rfl, hj⟩ := hg
              split at h
              · rename_i r' hr'
                rcases h.br with ⟨hc, h⟩ | ⟨hc, h⟩
                · cases h.ret
                  simp only [decide_eq_true_eq] at hc
                  obtain ⟨h1, h2, h3, h4, h5, h6⟩ := hs.arr_at hn
                  obtain ⟨g1, g2, g3, g4, g5⟩ := Rows.setCell_spec (q := q) hr' h4 hc hj
                  have hlen := Rows.cells_length h4
                  have hlt : i * rw'.size + j < rw'.cells.length := by
                    rw [hlen]
                    have : (i + 1) * rw'.size ≤ rw'.len * rw'.size := Nat.mul_le_mul_right _ hc
                    rw [Nat.add_mul] at this; omega
                  refine ⟨rfl, fun q' hsub _ _ => ⟨ρ, w.setRow (ρ n).b ((denL ρ rw'.cells).set (i * rw'.size + j) (den ρ v)).toArray, ?_, Agree.refl _ _, ?_⟩⟩
                  · simp only [den, h3, Nat.zero_add]
                    exact run1 h6 (by rw [denL_length]; exact hlt)
                  · rw [hov_one]
                    refine SatP.sub (hs.setRow h5 h1 (c' := .arr r' t') (g5 h2 hv) ?_) hsub
                    rw [← denL_set, ← g1, denL_eq]
                    exact Den.arr h3 g2
                · exact (h.bad).elim
              · exact (h.bad).elim
            · exact (h.bad).elim
          · rename_i rw' t' hn
            split at h
            · rename_i hg
              simp only [Bool.and_eq_true, beq_iff_eq, decide_eq_true_eq] at hg
              obtain ⟨rfl, hj⟩ := hg
              split at h
              · rename_i r' hr'
                rcases h.br with ⟨hc, h⟩ | ⟨hc, h⟩
                · cases h.ret
                  simp only [decide_eq_true_eq] at hc
                  obtain ⟨h1, h2, pre, post, h3, h4, hcap, hl, h5, h6⟩ := hs.vec_at hn
                  obtain ⟨g1, g2, g3, g4, g5⟩ := Rows.setCell_spec (q := q) hr' h4 hc hj
                  have hlen := Rows.cells_length h4
                  have hlt : i * rw'.size + j < rw'.cells.length := by
                    rw [hlen]
                    have : (i + 1) * rw'.size ≤ rw'.len * rw'.size := Nat.mul_le_mul_right _ hc
                    rw [Nat.add_mul] at this; omega
                  refine ⟨rfl, fun q' hsub _ _ => ⟨ρ, w.setRow (ρ n).b ((pre ++ (denL ρ rw'.cells ++ post)).set (pre.length + (i * rw'.size + j)) (den ρ v)).toArray, ?_, Agree.refl _ _, ?_⟩⟩
                  · simp only [den, h3]
                    exact run1 h6 (by simp [denL_length]; omega)
                  · rw [hov_one]
                    refine SatP.sub (hs.setRow h5 h1 (c' := .vec r' t') (g5 h2 hv) ?_) hsub
                    have e : (pre ++ (denL ρ rw'.cells ++ post)).set (pre.length + (i * rw'.size + j)) (den ρ v) = pre ++ (r'.cells.map (den ρ) ++ post) := by
                      rw [List.set_append, if_neg (by omega), Nat.add_sub_cancel_left, List.set_append, if_pos (by rw [denL_length]; exact hlt), ← denL_set, ← g1, denL_eq]
                    rw [e]
                    exact Den.vec pre post h3 g2 (by rw [g3, g4]; exact hcap) (by rw [g3]; exact hl)
                · exact (h.bad).elim
              · exact (h.bad).elim
            · exact (h.bad).elim
          · exact (h.bad).elim
        · exact (h.bad).elim
      · exact (h.bad).elim
    · exact (h.bad).elim
  · exact (h.bad).elim

/-- A new variable in cells. -/
theorem newVar_ok (hs : SatP body amb H q ρ w pt) {nb : Nat} {t : TypeId} {v : LV} {r : Rs A} (h : Gives H (newVarQ E nb t v) r) (hv : LV.ok q v = true) :
    OutV body amb H q ρ nb r (((newVar t (den ρ v)) >>= fun a => pure (Value.pointer (some a))).run P w) := by
  unfold newVarQ at h
  split at h
  · rename_i l hl
    cases h.ret
    obtain ⟨hcells, _, hokl⟩ := cellsOf_spec (q := q) hl ρ
    intro q' hsub hq' hq
    have hnb := hq nb (Nat.le_refl _) (Nat.lt_succ_self _)
    have hnb' := hq' nb (Nat.le_refl _) (Nat.lt_succ_self _)
    have hag : Agree q ρ (setBk ρ nb ⟨w.heap.size, 0, 0, undef⟩) := setBk_agree hnb
    have hd : Den body amb.R (setBk ρ nb ⟨w.heap.size, 0, 0, undef⟩) nb (.cells l t) (Hp.one w.heap.size (.cells (denL ρ l).toArray t)) := by
      have := Den.cells (body := body) (R := amb.R) (ρ := setBk ρ nb ⟨w.heap.size, 0, 0, undef⟩) (n := nb) (l := l) (t := t) (by rw [setBk_same])
      rw [setBk_same, ← denL_eq, denL_agree hag l (hokl hv)] at this
      exact this
    refine ⟨setBk ρ nb ⟨w.heap.size, 0, 0, undef⟩, w.alloc (.cells (denL ρ l).toArray t), ?_, hag, by simp only [LV.ok]; exact hnb', ?_⟩
    · simp only [newVar, newRow, hcells, Sem.run_bind, run_newObj, Result.andThen_ok, Sem.run_pure, den, setBk_same]
      rfl
    · rw [hov_one]
      exact ⟨_, hs.alloc hnb hsub hnb' hag (c' := .cells l t) (okL_mono hsub _ (hokl hv)) hd⟩
  · exact (h.bad).elim

end
end Go.Sx

/- What the symbolic executor's operations mean: literals, slices made and cut, maps. No condition. -/
set_option linter.unusedVariables false
set_option linter.unusedSimpArgs false
namespace Go.Sx

section
variable {A : Type} {P : Program} {body : A → List (Option (LO A))} {amb : Amb} {H : Nat → Option (LO A)} {E : Env A} {q : Nat → Bool} {ρ : Nat → Bk} {w : World} {pt : Nat → Hp}

theorem foldl_store (ρ : Nat → Bk) : ∀ (vs : List LV) (k o : Nat) (l : List LV),
    ((denL ρ vs).zipIdx k).foldl (fun cs (x : Value × Nat) => cs.setIfInBounds (o + x.2) x.1) (denL ρ l).toArray = (denL ρ (storeAll l (o + k) vs)).toArray
  | [], k, o, l => rfl
  | v :: vs, k, o, l => by
    simp only [denL, List.zipIdx_cons, List.foldl_cons, storeAll]
    have : (denL ρ l).toArray.setIfInBounds (o + k) (den ρ v) = (denL ρ (l.set (o + k) v)).toArray := by rw [denL_set]; simp
    rw [this, foldl_store ρ vs (k + 1) o (l.set (o + k) v)]
    rfl

theorem fill_ok {sizes place : Nat → Option (Nat × Nat)} (hp : ∀ i x, sizes i = some x → place i = some x) (ρ : Nat → Bk) : ∀ (parts : List (Nat × LV)) (cells l : List LV),
    fillL sizes cells parts = some l → Instr.fill place (denL ρ cells).toArray (parts.map fun x => (x.1, den ρ x.2)) = some (denL ρ l).toArray
  | [], cells, l, h => by cases h; rfl
  | (i, v) :: rest, cells, l, h => by
    unfold fillL at h
    split at h
    · rename_i off size vs hsz hvs
      obtain ⟨hc, _, _⟩ := cellsOf_spec (q := fun _ => true) hvs ρ
      split at h
      · rename_i hg
        simp only [Bool.and_eq_true, beq_iff_eq, decide_eq_true_eq] at hg
        obtain ⟨rfl, hle⟩ := hg
        have ih := fill_ok hp ρ rest _ l h
        simp only [List.map_cons, Instr.fill, hp _ _ hsz, hc, List.size_toArray, denL_length]
        rw [if_neg (by simp; omega)]
        rw [← ih]
        congr 1
        have := foldl_store ρ vs 0 off cells
        simp only [Nat.add_zero] at this
        rw [← this]
        rw [← Array.foldl_toList, Array.toList_zipIdx]
      · cases h
    · cases h

theorem fill_okL {sizes : Nat → Option (Nat × Nat)} : ∀ (parts : List (Nat × LV)) (cells l : List LV), fillL sizes cells parts = some l → okL q cells = true → (∀ x ∈ parts, LV.ok q x.2 = true) → okL q l = true
  | [], cells, l, h, h1, _ => by cases h; exact h1
  | (i, v) :: rest, cells, l, h, h1, h2 => by
    unfold fillL at h
    split at h
    · rename_i off size vs hsz hvs
      obtain ⟨_, _, hk⟩ := cellsOf_spec (q := q) hvs (fun _ => default)
      split at h
      · exact fill_okL rest _ l h (storeAll_ok vs cells off h1 (hk (h2 (i, v) (by simp)))) (fun x hx => h2 x (by simp [hx]))
      · cases h
    · cases h

theorem run_places (hT : TyOk P E) (w : World) : ∀ (fs : List Field), fs.all (fun fd => (E.ty fd.type).isSome) = true →
    (fs.mapM fun f => (do pure (f.offset, ← sizeOf f.type) : Sem (Nat × Nat))).run P w = .ok (fs.map fun f => (f.offset, (sizeT E f.type).getD 0)) w
  | [], _ => by simp
  | f :: fs, h => by
    simp only [List.all_cons, Bool.and_eq_true] at h
    have ih := run_places hT w fs h.2
    obtain ⟨r, hr⟩ := Option.isSome_iff_exists.1 h.1
    have hs : sizeT E f.type = some r.size := by simp [sizeT, hr]
    simp only [List.mapM_cons, Sem.run_bind, sizeT_run hT hs w, Result.andThen_ok, Sem.run_pure, ih, List.map_cons, hs, Option.getD_some]

theorem zero_ok {row : Row} {t : TypeId} (hk : RowOk P t row) : LV.ok q row.zero = true :=
  LV.ok_mono (fun n hn => absurd (lt_iff.1 hn) (Nat.not_lt_zero n)) _ hk.closed

theorem build_ok (hT : TyOk P E) {nb : Nat} {t : TypeId} {parts : List (Nat × LV)} {r : Rs A} (h : Gives H (buildQ E nb t parts) r) (hv : ∀ x ∈ parts, LV.ok q x.2 = true) (ρ : Nat → Bk) (w : World) :
    Quiet q nb r ∧ (Instr.build t (parts.map fun x => (x.1, den ρ x.2)).toArray).run P w = .ok (den ρ r.v) w := by
  unfold buildQ at h
  split at h
  · exact (h.bad).elim
  · rename_i row hrow
    have hk := hT t row hrow
    split at h
    · rename_i z hz
      have hzero : (zeroValue t).run P w = .ok (.agg (denL ρ z).toArray) w := by have := hk.zero w ρ; rw [hz] at this; exact this
      have hzok : okL q z = true := by have := zero_ok (q := q) hk; rw [hz] at this; exact this
      split at h
      · rename_i fs hd
        have hdr : (underlying t).run P w = .ok (.struct fs) w := by rw [hk.desc w, hd]
        split at h
        · rename_i l hl
          split at h
          · rename_i hall
            cases h.ret
            refine ⟨.mk' (by simp only [LV.ok]; exact fill_okL _ _ _ hl hzok hv), ?_⟩
            have hp := run_places hT w fs.toList hall
            have hfill := fill_ok (place := fun i => ((fs.map fun f => (f.offset, (sizeT E f.type).getD 0))[i]?)) (by
              intro i x hx
              split at hx
              · rename_i fd hfd
                cases hs : sizeT E fd.type with
                | none => rw [hs] at hx; cases hx
                | some s =>
                  rw [hs] at hx
                  cases hx
                  simp [hfd, hs]
              · cases hx) ρ parts z l hl
            simp only [Instr.build, Sem.run_bind, hzero, Result.andThen_ok, hdr, Value.cells]
            rw [Array.mapM_eq_mapM_toList]
            simp only [Sem.run_map, hp, Result.andThen_ok, List.map_toArray, Sem.run_pure]
            have e : (fs.map fun f => (f.offset, (sizeT E f.type).getD 0)) = (fs.toList.map fun f => (f.offset, (sizeT E f.type).getD 0)).toArray := by
              apply Array.ext'; simp
            rw [e] at hfill
            simp only [hfill, den]
            rfl
          · exact (h.bad).elim
        · exact (h.bad).elim
      · rename_i len e hd
        have hdr : (underlying t).run P w = .ok (.array len e) w := by rw [hk.desc w, hd]
        split at h
        · rename_i s hs
          split at h
          · rename_i l hl
            cases h.ret
            refine ⟨.mk' (by simp only [LV.ok]; exact fill_okL _ _ _ hl hzok hv), ?_⟩
            have hfill := fill_ok (place := fun i => some (i * s, s)) (fun i x hx => hx) ρ parts z l hl
            simp only [Instr.build, Sem.run_bind, hzero, Result.andThen_ok, hdr, Value.cells, sizeT_run hT hs w, hfill, den, Sem.run_pure]
          · exact (h.bad).elim
        · exact (h.bad).elim
      · exact (h.bad).elim
    · exact (h.bad).elim

/-- A new block in one step: the value names it. -/
theorem SatP.new (hs : SatP body amb H q ρ w pt) {nb : Nat} {c' : LO A} {o : Obj} {k : Bk} {q' : Nat → Bool} (hsub : Sub q q') (hnb' : q' nb = true) (hnb : q nb = false) (hc : LO.ok q c' = true)
    (hd : Den body amb.R (setBk ρ nb k) nb c' (Hp.one w.heap.size o)) : Agree q ρ (setBk ρ nb k) ∧ Sat body amb (hov [(nb, some c')] H) q' (setBk ρ nb k) (w.alloc o) := by
  refine ⟨setBk_agree hnb, ?_⟩
  rw [hov_one]
  exact ⟨_, hs.alloc hnb hsub hnb' (setBk_agree hnb) (LO.ok_mono hsub hc) hd⟩

theorem replicate_cells {α : Type} (f : α → LV) (n : Nat) (x : α) : (List.replicate n x).map f = List.replicate n (f x) := by simp

theorem makeSlice_ok (hT : TyOk P E) (hs : SatP body amb H q ρ w pt) {nb : Nat} {t : TypeId} {l c : LV} {r : Rs A} (h : Gives H (makeSliceQ E nb t l c) r) :
    OutV body amb H q ρ nb r ((Instr.makeSlice t (den ρ l) (den ρ c)).run P w) := by
  unfold makeSliceQ at h
  split at h
  · rename_i x y e hd
    split at h
    · rename_i row hrow
      have hk := hT e row hrow
      rcases h.br with ⟨hc, h'⟩ | ⟨hc, h'⟩ <;> clear h
      · simp only [Bool.and_eq_true, decide_eq_true_eq, beq_iff_eq] at hc
        obtain ⟨⟨h0, h1⟩, rfl⟩ := hc
        have hw : IntKind.i64.wrap x = x := IntWalk.i64_in _ (by omega)
        obtain ⟨ti, hti, hb, hsz⟩ := hk.info w
        have key : ∀ {z : Value}, row.size = 1 → row.bytes ≤ 8 → (zeroValue e).run P w = .ok z w → z.cells = #[z] →
            (Instr.makeSlice t (.int .i64 x) (.int .i64 x)).run P w = .ok (.slice (some ⟨w.heap.size, 0, none⟩) x.toNat x.toNat) (w.alloc (.cells (List.replicate x.toNat z).toArray e)) := by
          intro z hsz1 hb8 hz hzc
          have hlt : ¬ (2 : Int) ^ 48 < (ti.bytes : Int) * x := by
            rw [hb]
            have : (row.bytes : Int) * x ≤ 8 * x := Int.mul_le_mul_of_nonneg_right (by omega) h0
            omega
          unfold Instr.makeSlice
          simp only [Sem.run_bind, descT_run hT hd w, Result.andThen_ok, asInt, asIntOf, Sem.run_pure, hti, hw]
          have c1 : (decide (x < 0) || decide ((ti.bytes : Int) * x > 2 ^ 48)) = false := by
            simp only [Bool.or_eq_false_iff, decide_eq_false_iff_not]; exact ⟨by omega, hlt⟩
          simp only [c1, Bool.false_or, Bool.or_eq_true, decide_eq_true_eq]
          rw [if_neg (by omega)]
          simp only [Sem.run_bind, run_askRoom, Result.andThen_ok, hk.size w, hsz1, Nat.mul_one]
          by_cases hx0 : x.toNat = 0
          · rw [if_pos hx0]
            simp only [Sem.run_bind, Sem.run_pure, Result.andThen_ok, newRow, run_newObj, hx0]
            have e0 : ((Array.range 0).map fun i => (#[] : Array Value)[i % (#[] : Array Value).size]!) = (List.replicate 0 z).toArray := by simp
            rw [e0]; rfl
          · rw [if_neg hx0]
            simp only [Sem.run_bind, hz, Sem.run_pure, Result.andThen_ok, newRow, run_newObj, hzc]
            have : (Array.range x.toNat).map (fun i => (#[z] : Array Value)[i % (#[z] : Array Value).size]!) = (List.replicate x.toNat z).toArray := by
              apply Array.ext
              · simp
              · intro i h1 h2
                simp [Nat.mod_one]
            rw [this]
            rfl
        split at h'
        · rename_i hd' hsz1 hb8 hz
          cases h'.ret
          intro q' hsub hq' hq
          have hz' := hk.zero w ρ
          rw [hz] at hz'
          have hrun := key hsz1 (by omega) hz' rfl
          have hd2 : Den body amb.R (setBk ρ nb ⟨w.heap.size, 0, x.toNat, undef⟩) nb (.arr (.ints (List.replicate x.toNat 0)) e) (Hp.one w.heap.size (.cells (List.replicate x.toNat (Value.int .i64 0)).toArray e)) := by
            have := Den.arr (body := body) (R := amb.R) (ρ := setBk ρ nb ⟨w.heap.size, 0, x.toNat, undef⟩) (n := nb) (r := .ints (List.replicate x.toNat 0)) (t := e) (by rw [setBk_same]) rfl
            rw [setBk_same] at this
            simpa [Rows.cells, den] using this
          obtain ⟨g1, g2⟩ := hs.new hsub (hq' nb (Nat.le_refl _) (Nat.lt_succ_self _)) (hq nb (Nat.le_refl _) (Nat.lt_succ_self _)) (c' := .arr (.ints (List.replicate x.toNat 0)) e) rfl hd2
          refine ⟨_, _, ?_, g1, by simp only [LV.ok]; exact hq' nb (Nat.le_refl _) (Nat.lt_succ_self _), g2⟩
          simp only [den, hrun, setBk_same, Nat.zero_mul, Nat.add_zero]
        · rename_i hd' hsz1 hb8 hz
          cases h'.ret
          intro q' hsub hq' hq
          have hz' := hk.zero w ρ
          rw [hz] at hz'
          have hrun := key hsz1 (by omega) hz' rfl
          have hd2 : Den body amb.R (setBk ρ nb ⟨w.heap.size, 0, x.toNat, undef⟩) nb (.arr (.bools (List.replicate x.toNat false)) e) (Hp.one w.heap.size (.cells (List.replicate x.toNat (Value.bool false)).toArray e)) := by
            have := Den.arr (body := body) (R := amb.R) (ρ := setBk ρ nb ⟨w.heap.size, 0, x.toNat, undef⟩) (n := nb) (r := .bools (List.replicate x.toNat false)) (t := e) (by rw [setBk_same]) rfl
            rw [setBk_same] at this
            simpa [Rows.cells, den] using this
          obtain ⟨g1, g2⟩ := hs.new hsub (hq' nb (Nat.le_refl _) (Nat.lt_succ_self _)) (hq nb (Nat.le_refl _) (Nat.lt_succ_self _)) (c' := .arr (.bools (List.replicate x.toNat false)) e) rfl hd2
          refine ⟨_, _, ?_, g1, by simp only [LV.ok]; exact hq' nb (Nat.le_refl _) (Nat.lt_succ_self _), g2⟩
          simp only [den, hrun, setBk_same, Nat.zero_mul, Nat.add_zero]
        · exact (h'.bad).elim
      · exact (h'.bad).elim
    · exact (h.bad).elim
  · exact (h.bad).elim
end
end Go.Sx

/- What the symbolic executor's operations mean: slices cut and grown. No condition. -/
set_option linter.unusedVariables false
set_option linter.unusedSimpArgs false
namespace Go.Sx

section
variable {A : Type} {P : Program} {body : A → List (Option (LO A))} {amb : Amb} {H : Nat → Option (LO A)} {E : Env A} {q : Nat → Bool} {ρ : Nat → Bk} {w : World} {pt : Nat → Hp}

theorem run_slice_slice {t e : TypeId} {s : Nat} {w : World} (hd : (underlying t).run P w = .ok (.slice e) w) (hs : (sizeOf e).run P w = .ok s w) (a : Option Addr) (len cap : Nat)
    (lo hi mx : Option Int) (hm : 0 ≤ mx.getD cap ∧ mx.getD cap ≤ cap) (hh : 0 ≤ hi.getD len ∧ hi.getD len ≤ mx.getD cap) (hl : 0 ≤ lo.getD 0 ∧ lo.getD 0 ≤ hi.getD len)
    (hx : hi = none → mx = none) :
    (Instr.sliceAt t (.slice a len cap) (lo.map (.int .i64)) (hi.map (.int .i64)) (mx.map (.int .i64))).run P w =
      .ok (.slice (if (mx.getD cap).toNat = (lo.getD 0).toNat then a else a.map (·.add ((lo.getD 0).toNat * s))) ((hi.getD len).toNat - (lo.getD 0).toNat) ((mx.getD cap).toNat - (lo.getD 0).toNat)) w := by
  have hb : ∀ (i : Int) (y : Nat) (code : BoundsCode), 0 ≤ i → i ≤ y → (Instr.sliceBound (.int .i64 i) y code).run P w = .ok i.toNat w := by
    intro i y code h1 h2
    simp [Instr.sliceBound, asIntOf, h1, h2]
  unfold Instr.sliceAt
  simp only [Sem.run_bind, hd, Result.andThen_ok]
  unfold Instr.slice
  simp only [Sem.run_bind, hd, Result.andThen_ok]
  have key : (Instr.sliceBounds true len cap (lo.map (.int .i64)) (hi.map (.int .i64)) (mx.map (.int .i64))).run P w = .ok ((lo.getD 0).toNat, (hi.getD len).toNat, (mx.getD cap).toNat) w := by
    unfold Instr.sliceBounds
    cases mx with
    | none =>
      cases hi with
      | none =>
        cases lo with
        | none => simp
        | some l =>
          simp only [Option.getD_some, Option.getD_none] at *
          simp [hb l len _ hl.1 hl.2]
      | some h =>
        simp only [Option.getD_some, Option.getD_none] at *
        cases lo with
        | none => simp [hb h cap _ hh.1 hh.2]
        | some l =>
          simp only [Option.getD_some] at *
          simp [hb h cap _ hh.1 hh.2, hb l h.toNat _ hl.1 (by omega)]
    | some m =>
      cases hi with
      | none => cases hx rfl
      | some h =>
        simp only [Option.getD_some] at *
        cases lo with
        | none => simp [hb m cap _ hm.1 hm.2, hb h m.toNat _ hh.1 (by omega)]
        | some l =>
          simp only [Option.getD_some] at *
          simp [hb m cap _ hm.1 hm.2, hb h m.toNat _ hh.1 (by omega), hb l h.toNat _ hl.1 (by omega)]
  simp only [key, hs, Result.andThen_ok, Sem.run_pure]

theorem optInt_den {x : Option LV} {y : Option Int} (h : optInt x = some y) (ρ : Nat → Bk) : x.map (den ρ) = y.map (.int .i64) := by
  unfold optInt at h
  split at h <;> first | (cases h; done) | (cases h; rfl)

theorem Rows.take_drop (r : Rows) (l h : Nat) (hw : r.wf = true) : ((r.take h).drop l).cells = ((r.cells.take (h * r.size)).drop (l * r.size)) ∧ ((r.take h).drop l).wf = true ∧
    ((r.take h).drop l).len = min h r.len - l ∧ ((r.take h).drop l).size = r.size ∧ (r.ok q = true → ((r.take h).drop l).ok q = true) := by
  cases r with
  | ints x =>
    refine ⟨by simp [Rows.take, Rows.drop, Rows.cells, Rows.size, List.map_take, List.map_drop], rfl, by simp [Rows.take, Rows.drop, Rows.len], rfl, fun _ => rfl⟩
  | bools x =>
    refine ⟨by simp [Rows.take, Rows.drop, Rows.cells, Rows.size, List.map_take, List.map_drop], rfl, by simp [Rows.take, Rows.drop, Rows.len], rfl, fun _ => rfl⟩
  | pairs x =>
    refine ⟨?_, rfl, by simp [Rows.take, Rows.drop, Rows.len], rfl, fun _ => rfl⟩
    simp only [Rows.take, Rows.drop, Rows.cells, Rows.size]
    have hd : ∀ (x : List (Int × Int)) (l : Nat), ((x.drop l).flatMap fun p => [LV.int .i64 p.1, LV.int .i64 p.2]) = (x.flatMap fun p => [LV.int .i64 p.1, LV.int .i64 p.2]).drop (l * 2) := by
      intro x
      induction x with
      | nil => simp
      | cons y x ih =>
        intro l
        cases l with
        | zero => simp
        | succ l => rw [show (l + 1) * 2 = l * 2 + 1 + 1 by omega]; simp [ih]
    have ht : ∀ (x : List (Int × Int)) (l : Nat), ((x.take l).flatMap fun p => [LV.int .i64 p.1, LV.int .i64 p.2]) = (x.flatMap fun p => [LV.int .i64 p.1, LV.int .i64 p.2]).take (l * 2) := by
      intro x
      induction x with
      | nil => simp
      | cons y x ih =>
        intro l
        cases l with
        | zero => simp
        | succ l => rw [show (l + 1) * 2 = l * 2 + 1 + 1 by omega]; simp [ih]
    rw [hd, ht]
  | lvs sz x =>
    simp only [Rows.wf, List.all_eq_true, beq_iff_eq] at hw
    refine ⟨?_, ?_, by simp [Rows.take, Rows.drop, Rows.len], rfl, ?_⟩
    · simp only [Rows.take, Rows.drop, Rows.cells, Rows.size]
      have hd : ∀ (x : List (List LV)) (l : Nat), (∀ y ∈ x, y.length = sz) → (x.drop l).flatten = x.flatten.drop (l * sz) := by
        intro x
        induction x with
        | nil => simp
        | cons y x ih =>
          intro l hy
          cases l with
          | zero => simp
          | succ l =>
            have := ih l (fun z hz => hy z (by simp [hz]))
            have hly := hy y (by simp)
            have e : (l + 1) * sz = y.length + l * sz := by rw [hly, Nat.add_mul]; omega
            simp only [List.drop_succ_cons, List.flatten_cons, this, e]
            rw [← List.drop_drop, List.drop_left]
      have ht : ∀ (x : List (List LV)) (l : Nat), (∀ y ∈ x, y.length = sz) → (x.take l).flatten = x.flatten.take (l * sz) := by
        intro x
        induction x with
        | nil => simp
        | cons y x ih =>
          intro l hy
          cases l with
          | zero => simp
          | succ l =>
            have := ih l (fun z hz => hy z (by simp [hz]))
            have hly := hy y (by simp)
            have e : (l + 1) * sz = y.length + l * sz := by rw [hly, Nat.add_mul]; omega
            simp only [List.take_succ_cons, List.flatten_cons, this, e]
            rw [List.take_append, List.take_of_length_le (l := y) (by omega), Nat.add_sub_cancel_left]
      rw [hd _ _ (fun y hy => hw y (List.mem_of_mem_take hy)), ht _ _ hw]
    · simp only [Rows.take, Rows.drop, Rows.wf, List.all_eq_true, beq_iff_eq]
      exact fun y hy => hw y (List.mem_of_mem_take (List.mem_of_mem_drop hy))
    · intro hr
      simp only [Rows.take, Rows.drop, Rows.ok, List.all_eq_true] at hr ⊢
      exact fun y hy => hr y (List.mem_of_mem_take (List.mem_of_mem_drop hy))

/-- A chunk goes to a new name, turned; the world as it is. -/
theorem SatP.move (hs : SatP body amb H q ρ w pt) {n nb : Nat} {c : LO A} (hn : H n = some c) {c' : LO A} {q' : Nat → Bool} {k : Bk} (hsub : Sub q q') (hnb' : q' nb = true) (hnb : q nb = false)
    (hc : LO.ok q c' = true) {p' : Hp} (hp' : ∀ b o, p' b = some o → pt n b = some o) (hd : Den body amb.R (setBk ρ nb k) nb c' p') :
    Agree q ρ (setBk ρ nb k) ∧ Sat body amb (hov [(nb, some c'), (n, none)] H) q' (setBk ρ nb k) w := by
  have hqn := (hs.den n c hn).1
  have hne : nb ≠ n := by rintro rfl; rw [hnb] at hqn; cases hqn
  have hag : Agree q ρ (setBk ρ nb k) := setBk_agree hnb
  have hpne : ∀ b, p' b ≠ none → pt n b ≠ none := by
    intro b hb
    cases hq : p' b with
    | none => exact absurd hq hb
    | some o => rw [hp' b o hq]; simp
  refine ⟨hag, ?_⟩
  have h1 := hs.drop n
  have h2 := h1.put nb p' (some c') (q' := q') (ρ' := setBk ρ nb k) (w' := w) hag hsub
    (fun c hc' => by cases hc'; exact ⟨hnb', LO.ok_mono hsub hc, hd⟩) (fun h => by cases h)
    (fun b hb => .inr ⟨fun m => by
      by_cases e : m = n
      · simp only [if_pos e]; rfl
      · simp only [if_neg e]; exact hs.apart n m b (fun e' => e e'.symm) (hpne b hb), hs.out n b (hpne b hb)⟩)
    (fun b o h => hs.heap n b o (hp' b o h)) (fun b o _ h => h) ⟨rfl, rfl, rfl⟩
  rw [hov_cons, hov_one]
  exact ⟨_, h2⟩

theorem SatP.dropFirst (hs : SatP body amb H q ρ w pt) {n nb : Nat} {a : A} {l : List A} {t : TypeId} {hole : Option Nat} (hn : H n = some (.avec (a :: l) t hole)) (hnb : q nb = false)
    {q' : Nat → Bool} (hsub : Sub q q') (hq' : q' nb = true) :
    ∃ ρ', Agree q ρ ρ' ∧ Sat body amb (hov [(nb, some (.avec l t none)), (n, none)] H) q' ρ' w ∧ l.length + 1 ≤ (ρ n).c ∧
      (ρ' nb).b = (ρ n).b ∧ (ρ' nb).o = (if (ρ n).c = 1 then (ρ n).o else (ρ n).o + 1) ∧ (ρ' nb).c = (ρ n).c - 1 := by
  obtain ⟨hqn, hok, hd⟩ := hs.den n _ hn
  generalize hc : LO.avec (A := A) (a :: l) t hole = c at hd
  generalize hp : pt n = p at hd
  cases hd with
  | avec pre post ho hcap ρs pts p hpt hz hh hob hu =>
    cases hc
    obtain ⟨hcap1, hcap2⟩ := hcap
    simp only [List.length_cons] at hcap1 hcap2
    let p' : Hp := fun b => if pts 0 b = none then p b else none
    have hp'p : ∀ b o, p' b = some o → p b = some o := by
      intro b o h
      have h' : (if pts 0 b = none then p b else none) = some o := h
      split at h'
      · exact h'
      · cases h'
    have key : ∀ (k : Bk) (pre' post' : List Value), k.b = (ρ n).b → k.o = pre'.length → l.length ≤ k.c → k.c ≤ l.length + post'.length →
        pre' ++ ((List.range l.length).map (fun i => Value.pointer (some ⟨(ρs (i + 1) 0).b, 0, none⟩)) ++ post') =
          pre ++ ((List.range (a :: l).length).map (fun i => Value.pointer (some ⟨(ρs i 0).b, 0, none⟩)) ++ post) →
        Den body amb.R (setBk ρ nb k) nb (.avec l t none) p' := by
      intro k pre' post' h1 h2 h3 h4 h5
      refine Den.avec pre' post' (by rw [setBk_same]; exact h2) (by rw [setBk_same]; exact ⟨h3, h4⟩) (fun i => ρs (i + 1)) (fun i => pts (i + 1)) p' ?_ ?_ ?_ (fun i => hob (i + 1)) ⟨?_, ?_, ?_⟩
      · intro i a' hi _
        exact hpt (i + 1) a' (by simpa using hi) (fun h => by omega)
      · intro i hi b
        refine hz (i + 1) ?_ b
        rcases hi with hi | ⟨_, hi⟩
        · left; simp; omega
        · exact absurd rfl hi
      · intro m hm; cases hm
      · intro b o h
        have h' : (if pts 0 b = none then p b else none) = some o := h
        split at h'
        · rename_i h0
          obtain ⟨i, hi⟩ := hu.to b o h'
          by_cases e : i = 0
          · refine ⟨0, ?_⟩
            simp only [if_pos e] at hi
            simp only [if_true]
            rw [setBk_same, h5, h1]; exact hi
          · simp only [if_neg e] at hi
            by_cases e1 : i - 1 = 0
            · rw [e1, h0] at hi; cases hi
            · refine ⟨i - 1, ?_⟩
              simp only [if_neg e1]
              rw [show i - 1 - 1 + 1 = i - 1 by omega]; exact hi
        · cases h'
      · intro i b o h
        show (if pts 0 b = none then p b else none) = some o
        by_cases e : i = 0
        · simp only [if_pos e] at h
          rw [setBk_same, h5, h1] at h
          have g1 := hu.of 0 b o (by simp only [if_true]; exact h)
          have g2 := hu.apart 0 1 b (by omega) (by simp only [if_true]; rw [h]; exact fun e => by cases e)
          rw [if_pos (by simpa using g2)]; exact g1
        · simp only [if_neg e] at h
          have g0 : (if i + 1 = 0 then Hp.one (ρ n).b (.cells (pre ++ ((List.range (a :: l).length).map (fun i => Value.pointer (some ⟨(ρs i 0).b, 0, none⟩)) ++ post)).toArray t) else pts (i + 1 - 1)) b = some o := by
            rw [if_neg (by omega)]
            rw [show i + 1 - 1 = i - 1 + 1 by omega]; exact h
          have g1 := hu.of (i + 1) b o g0
          have g2 := hu.apart (i + 1) 1 b (by omega) (by rw [g0]; exact fun e => by cases e)
          rw [if_pos (by simpa using g2)]; exact g1
      · intro i j b hij h
        have mono : ∀ i, (if i = 0 then Hp.one (setBk ρ nb k nb).b (.cells (pre' ++ ((List.range l.length).map (fun i => Value.pointer (some ⟨(ρs (i + 1) 0).b, 0, none⟩)) ++ post')).toArray t) else pts (i - 1 + 1)) b ≠ none →
            (if (if i = 0 then 0 else i + 1) = 0 then Hp.one (ρ n).b (.cells (pre ++ ((List.range (a :: l).length).map (fun i => Value.pointer (some ⟨(ρs i 0).b, 0, none⟩)) ++ post)).toArray t) else pts ((if i = 0 then 0 else i + 1) - 1)) b ≠ none := by
          intro i h
          by_cases e : i = 0
          · simp only [if_pos e, if_true] at h ⊢
            rw [setBk_same, h5, h1] at h; exact h
          · simp only [if_neg e] at h ⊢
            rw [if_neg (by omega)]
            rw [show i + 1 - 1 = i - 1 + 1 by omega]; exact h
        cases hq : (if j = 0 then Hp.one (setBk ρ nb k nb).b (.cells (pre' ++ ((List.range l.length).map (fun i => Value.pointer (some ⟨(ρs (i + 1) 0).b, 0, none⟩)) ++ post')).toArray t) else pts (j - 1 + 1)) b with
        | none => rfl
        | some o =>
          have := hu.apart (if i = 0 then 0 else i + 1) (if j = 0 then 0 else j + 1) b (by split <;> split <;> omega) (mono i h)
          exact absurd this (mono j (by rw [hq]; exact fun e => by cases e))
    have hpn : ∀ b o, p' b = some o → pt n b = some o := fun b o h => by rw [hp]; exact hp'p b o h
    have erange : (List.range (l.length + 1)).map (fun i => Value.pointer (some ⟨(ρs i 0).b, 0, none⟩)) = Value.pointer (some ⟨(ρs 0 0).b, 0, none⟩) :: (List.range l.length).map (fun i => Value.pointer (some ⟨(ρs (i + 1) 0).b, 0, none⟩)) := by
      simp [List.range_succ_eq_map]
    by_cases h1 : (ρ n).c = 1
    · have hl0 : l = [] := List.eq_nil_of_length_eq_zero (by omega)
      subst hl0
      obtain ⟨m1, m2⟩ := hs.move (k := ⟨(ρ n).b, (ρ n).o, 0, undef⟩) hn hsub hq' hnb (c' := .avec [] t none) rfl hpn
        (key ⟨(ρ n).b, (ρ n).o, 0, undef⟩ pre (Value.pointer (some ⟨(ρs 0 0).b, 0, none⟩) :: post) rfl ho (by simp) (by simp) (by simp [List.range_succ]))
      exact ⟨_, m1, m2, by simpa using hcap1, by rw [setBk_same], by rw [setBk_same, if_pos h1], by rw [setBk_same, h1]⟩
    · obtain ⟨m1, m2⟩ := hs.move (k := ⟨(ρ n).b, (ρ n).o + 1, (ρ n).c - 1, undef⟩) hn hsub hq' hnb (c' := .avec l t none) rfl hpn
        (key ⟨(ρ n).b, (ρ n).o + 1, (ρ n).c - 1, undef⟩ (pre ++ [Value.pointer (some ⟨(ρs 0 0).b, 0, none⟩)]) post rfl (by simp [ho]) (by simp only []; omega) (by simp only []; omega) (by
          simp only [List.length_cons, erange, List.append_assoc, List.cons_append, List.nil_append]))
      exact ⟨_, m1, m2, hcap1, by rw [setBk_same], by rw [setBk_same, if_neg h1], by rw [setBk_same]⟩
  | _ => cases hc

theorem slice_ok (hT : TyOk P E) (hs : SatP body amb H q ρ w pt) {nb : Nat} {t : TypeId} {x : LV} {lo hi mx : Option LV} {r : Rs A} (h : Gives H (sliceQ E nb t x lo hi mx) r) (hx : LV.ok q x = true) :
    OutV body amb H q ρ nb r ((Instr.sliceAt t (den ρ x) (lo.map (den ρ)) (hi.map (den ρ)) (mx.map (den ρ))).run P w) := by
  unfold sliceQ at h
  split at h
  · rename_i e l h1 m hd hl hh hm
    rw [optInt_den hl ρ, optInt_den hh ρ, optInt_den hm ρ]
    have hdr := descT_run hT hd w
    split at h
    · exact (h.bad).elim
    · rename_i s hsz
      have hsr := sizeT_run hT hsz w
      split at h
      · rename_i n sz o len cap
        split at h
        · rename_i hg
          simp only [Bool.and_eq_true, beq_iff_eq, Bool.or_eq_true] at hg
          obtain ⟨rfl, hg⟩ := hg
          rcases h.br with ⟨hc, h'⟩ | ⟨hc, h'⟩ <;> clear h
          · simp only [Bool.and_eq_true, decide_eq_true_eq] at hc
            obtain ⟨c1, c2, c3⟩ := hc
            cases h'.ret
            refine Quiet.out hs (.mk' (by simpa [LV.ok] using hx)) ?_
            simp only [den]
            rw [run_slice_slice hdr hsr _ _ _ _ _ _ c1 c2 c3 (by rintro rfl; simpa using hg)]
            simp only [Option.map_some, add_none]
            congr 2
            split <;> simp [Nat.add_mul, Nat.add_assoc]
          · exact (h'.bad).elim
        · exact (h.bad).elim
      · rename_i n len
        split at h
        · exact (h.bad).elim
        · replace h := h.get
          split at h
          · rename_i rw' t' hn
            split at h
            · rename_i hg
              simp only [beq_iff_eq] at hg
              rcases h.br with ⟨hc, h'⟩ | ⟨hc, h'⟩ <;> clear h
              · simp only [Bool.and_eq_true, decide_eq_true_eq, beq_iff_eq] at hc
                obtain ⟨rfl, c2, c3⟩ := hc
                cases h'.ret
                obtain ⟨g1, g2, pre, post, g3, g4, g5, g6, g7, g8⟩ := hs.vec_at hn
                intro q' hsub hq' hq
                obtain ⟨k1, k2, k3, k4, k5⟩ := Rows.take_drop (q := q) rw' (l.getD 0).toNat (h1.getD rw'.len).toNat g4
                have hlen := Rows.cells_length g4
                have hrun := run_slice_slice (P := P) hdr hsr (some ⟨(ρ n).b, (ρ n).o, none⟩) rw'.len (ρ n).c l h1 none ⟨by simp, by simp⟩ ⟨c2.1, by simp only [Option.getD_none]; omega⟩ c3 (fun _ => rfl)
                subst hg
                -- where the rest begins
                let L := (l.getD 0).toNat
                let Hh := (h1.getD rw'.len).toNat
                have hL : L ≤ Hh := by show (l.getD 0).toNat ≤ (h1.getD rw'.len).toNat; omega
                have hH : Hh ≤ rw'.len := by show (h1.getD rw'.len).toNat ≤ rw'.len; omega
                by_cases hcl : (ρ n).c = L
                · have e0 : ((rw'.take Hh).drop L).len = 0 := by show ((rw'.take (h1.getD rw'.len).toNat).drop (l.getD 0).toNat).len = 0; rw [k3]; show min Hh rw'.len - L = 0; omega
                  have ecells : ((rw'.take Hh).drop L).cells = [] := by
                    have := Rows.cells_length k2
                    have h0 : ((rw'.take Hh).drop L).len = 0 := e0
                    have h' : ((rw'.take Hh).drop L).cells.length = 0 := by rw [show ((rw'.take Hh).drop L).cells.length = _ from this, h0]; simp
                    exact List.eq_nil_of_length_eq_zero h'
                  have hd' : Den body amb.R (setBk ρ nb ⟨(ρ n).b, (ρ n).o, 0, undef⟩) nb (.vec ((rw'.take Hh).drop L) t') (pt n) := by
                    have := Den.vec (body := body) (R := amb.R) (ρ := setBk ρ nb ⟨(ρ n).b, (ρ n).o, 0, undef⟩) (n := nb) (r := (rw'.take Hh).drop L) (t := t') pre (denL ρ rw'.cells ++ post)
                      (by rw [setBk_same]; exact g3) k2 (by rw [setBk_same]; simp) (by rw [setBk_same, e0]; exact Nat.le_refl _)
                    rw [setBk_same, ecells] at this
                    rw [g7]
                    simpa using this
                  obtain ⟨m1, m2⟩ := hs.move hn hsub (hq' nb (Nat.le_refl _) (Nat.lt_succ_self _)) (hq nb (Nat.le_refl _) (Nat.lt_succ_self _)) (c' := .vec ((rw'.take Hh).drop L) t') (k5 g2) (fun _ _ h => h) hd'
                  refine ⟨_, w, ?_, m1, by simp only [LV.ok]; exact hq' nb (Nat.le_refl _) (Nat.lt_succ_self _), m2⟩
                  simp only [den, setBk_same]
                  refine hrun.trans ?_
                  simp only [Option.getD_none, Int.toNat_natCast]
                  rw [if_pos (by exact hcl)]
                  congr 2
                  show (ρ n).c - L = 0; omega
                · have hd' : Den body amb.R (setBk ρ nb ⟨(ρ n).b, (ρ n).o + L * rw'.size, (ρ n).c - L, undef⟩) nb (.vec ((rw'.take Hh).drop L) t') (pt n) := by
                    have := Den.vec (body := body) (R := amb.R) (ρ := setBk ρ nb ⟨(ρ n).b, (ρ n).o + L * rw'.size, (ρ n).c - L, undef⟩) (n := nb) (r := (rw'.take Hh).drop L) (t := t')
                      (pre ++ denL ρ (rw'.cells.take (L * rw'.size))) (denL ρ (rw'.cells.drop (Hh * rw'.size)) ++ post)
                      (by
                        rw [setBk_same]
                        simp only [List.length_append, denL_length, List.length_take, hlen, g3]
                        have : L * rw'.size ≤ rw'.len * rw'.size := Nat.mul_le_mul_right _ (by omega)
                        omega) k2 (by
                        rw [setBk_same, k3, k4]
                        show ((ρ n).c - L) * rw'.size ≤ _ + (min Hh rw'.len - L) * rw'.size
                        simp only [List.length_append, denL_length, List.length_drop, hlen, Nat.sub_mul]
                        rw [Nat.min_eq_left hH]
                        have h1 : L * rw'.size ≤ Hh * rw'.size := Nat.mul_le_mul_right _ hL
                        have h2 : Hh * rw'.size ≤ rw'.len * rw'.size := Nat.mul_le_mul_right _ hH
                        omega) (by
                        rw [setBk_same, k3]
                        show min Hh rw'.len - L ≤ (ρ n).c - L
                        omega)
                    rw [setBk_same] at this
                    rw [g7]
                    have hag : Agree q ρ (setBk ρ nb ⟨(ρ n).b, (ρ n).o + L * rw'.size, (ρ n).c - L, undef⟩) := setBk_agree (hq nb (Nat.le_refl _) (Nat.lt_succ_self _))
                    have e : pre ++ denL ρ (rw'.cells.take (L * rw'.size)) ++ (((rw'.take Hh).drop L).cells.map (den (setBk ρ nb ⟨(ρ n).b, (ρ n).o + L * rw'.size, (ρ n).c - L, undef⟩)) ++ (denL ρ (rw'.cells.drop (Hh * rw'.size)) ++ post)) = pre ++ (denL ρ rw'.cells ++ post) := by
                      rw [map_den_agree hag (Rows.ok_cells (k5 g2)), show ((rw'.take Hh).drop L).cells = _ from k1]
                      rw [← denL_eq]
                      simp only [List.append_assoc]
                      congr 1
                      rw [← List.append_assoc, ← List.append_assoc, ← denL_append, ← denL_append]
                      congr 2
                      show (rw'.cells.take (L * rw'.size) ++ (rw'.cells.take (Hh * rw'.size)).drop (L * rw'.size)) ++ rw'.cells.drop (Hh * rw'.size) = rw'.cells
                      have h1 : L * rw'.size ≤ Hh * rw'.size := Nat.mul_le_mul_right _ hL
                      have e1 : rw'.cells.take (L * rw'.size) = (rw'.cells.take (Hh * rw'.size)).take (L * rw'.size) := by rw [List.take_take, Nat.min_eq_left h1]
                      rw [e1, List.take_append_drop, List.take_append_drop]
                    rw [e] at this
                    exact this
                  obtain ⟨m1, m2⟩ := hs.move hn hsub (hq' nb (Nat.le_refl _) (Nat.lt_succ_self _)) (hq nb (Nat.le_refl _) (Nat.lt_succ_self _)) (c' := .vec ((rw'.take Hh).drop L) t') (k5 g2) (fun _ _ h => h) hd'
                  refine ⟨_, w, ?_, m1, by simp only [LV.ok]; exact hq' nb (Nat.le_refl _) (Nat.lt_succ_self _), m2⟩
                  simp only [den, setBk_same]
                  refine hrun.trans ?_
                  simp only [Option.getD_none, Int.toNat_natCast]
                  rw [if_neg (by exact hcl)]
                  simp only [Option.map_some, add_none]
                  rfl
              · exact (h'.bad).elim
            · exact (h.bad).elim
          · rename_i a as t' hole hn
            split at h
            · rename_i lo' hi' e1 e2
              split at h
              · rename_i hg
                simp only [beq_iff_eq] at hg
                subst hg
                rcases h.br with ⟨hc, h'⟩ | ⟨hc, h'⟩ <;> clear h
                · simp only [beq_iff_eq] at hc
                  subst hc
                  cases h'.ret
                  intro q' hsub hq' hq
                  obtain ⟨ρ', m1, m2, m3, m4, m5, m6⟩ := hs.dropFirst hn (hq nb (Nat.le_refl _) (Nat.lt_succ_self _)) hsub (hq' nb (Nat.le_refl _) (Nat.lt_succ_self _))
                  refine ⟨ρ', w, ?_, m1, by simp only [LV.ok]; exact hq' nb (Nat.le_refl _) (Nat.lt_succ_self _), m2⟩
                  have hrun := run_slice_slice (P := P) hdr hsr (some ⟨(ρ n).b, (ρ n).o, none⟩) (as.length + 1) (ρ n).c (some 1) none none ⟨by simp, by simp⟩
                    ⟨by simp only [Option.getD_none]; omega, by simp only [Option.getD_none]; omega⟩ ⟨by simp, by simp only [Option.getD_none, Option.getD_some]; omega⟩ (fun _ => rfl)
                  simp only [den]
                  refine hrun.trans ?_
                  simp only [Option.getD_none, Option.getD_some, Int.toNat_natCast, Option.map_some, add_none, m4, m5, m6]
                  by_cases h1 : (ρ n).c = 1
                  · simp [h1]
                  · have : ¬ (ρ n).c = (1 : Int).toNat := h1
                    rw [if_neg this, if_neg h1]
                    rfl
                · exact (h'.bad).elim
              · exact (h.bad).elim
            · exact (h.bad).elim
          · exact (h.bad).elim
      · split at h
        · exact (h.bad).elim
        · rcases h.br with ⟨hc, h'⟩ | ⟨hc, h'⟩ <;> clear h
          · simp only [decide_eq_true_eq] at hc
            obtain ⟨c1, c2⟩ := hc
            cases h'.ret
            refine Quiet.out hs (.mk' rfl) ?_
            simp only [den]
            have := run_slice_slice (P := P) hdr hsr none 0 0 l h1 none ⟨by simp, by simp⟩ ⟨by show 0 ≤ h1.getD 0; omega, by show h1.getD 0 ≤ 0; omega⟩
              ⟨by omega, by show l.getD 0 ≤ h1.getD 0; omega⟩ (fun _ => rfl)
            refine this.trans ?_
            rw [c1]
            have e2 : h1.getD ((0 : Nat) : Int) = 0 := c2
            rw [e2]
            simp
          · exact (h'.bad).elim
      · exact (h.bad).elim
  · exact (h.bad).elim

end
end Go.Sx

/- What the symbolic executor's operations mean: append. No condition. -/
set_option linter.unusedVariables false
set_option linter.unusedSimpArgs false
namespace Go.Sx

section
variable {A : Type} {P : Program} {body : A → List (Option (LO A))} {amb : Amb} {H : Nat → Option (LO A)} {E : Env A} {q : Nat → Bool} {ρ : Nat → Bk} {w : World} {pt : Nat → Hp}

theorem underlying_of {t : TypeId} {d : TypeDesc} (h : ∀ w, (underlying t).run P w = .ok d w) : P.underlying t = some d := by
  have := h default
  simp only [underlying, Sem.run_bind, run_program, Result.andThen_ok] at this
  cases hu : P.underlying t with
  | none => rw [hu] at this; cases this
  | some d' => rw [hu] at this; simp only [Sem.run_pure] at this; cases this; rfl

theorem info_of {t : TypeId} {row : Row} (hk : RowOk P t row) : ∃ i z, P.info? t = some i ∧ i.zero = some z ∧ i.size = row.size ∧ i.bytes = row.bytes ∧ ∀ ρ, z = den ρ row.zero := by
  obtain ⟨i, hi, hb, hs⟩ := hk.info default
  simp only [typeInfo, Sem.run_bind, run_program, Result.andThen_ok] at hi
  cases hu : P.info? t with
  | none => rw [hu] at hi; cases hi
  | some i' =>
    rw [hu] at hi; simp only [Sem.run_pure] at hi; cases hi
    have hz := fun ρ => hk.zero default ρ
    cases hzz : i.zero with
    | none =>
      have := hz (fun _ => default)
      simp [zeroValue, typeInfo, hu, hzz] at this
    | some z =>
      refine ⟨i, z, rfl, hzz, hs, hb, fun ρ => ?_⟩
      have := hz ρ
      simp [zeroValue, typeInfo, hu, hzz] at this
      exact this

/-- append where there is room, the slice anywhere in its block. -/
theorem run_append_here (w : World) (t t2 ty e e2 : TypeId) (i : TypeInfo) (ht : P.underlying t = some (.slice e)) (ht2 : P.underlying t2 = some (.slice e2)) (hi : P.info? e = some i) (g o n cap : Nat) (cur : Array Value) (e' : TypeId)
    (hg : w.heap[g]? = some (.cells cur e' (0, 0))) (a : Addr) (m c : Nat) (news : List Value) (hl : news.length = m * i.size) (hnews : ∀ j u, news[j]? = some u → w.cell? (a.add j) = some u)
    (h1 : ∀ u ∈ news, u.oneCell' = true) (hroom : n + m ≤ cap) (hfit : o + n * i.size + news.length ≤ cur.size) :
    (Builtin.append_ #[t, t2] ty #[.slice (some ⟨g, o, none⟩) n cap, .slice (some a) m c]).run P w =
      .ok (.slice (some ⟨g, o, none⟩) (n + m) cap) (w.setRow g (cur.toList.take (o + n * i.size) ++ news ++ cur.toList.drop (o + n * i.size + news.length)).toArray) := by
  have hf := run_firstCells_some (P := P) w i.size m a m c news hl hnews
  have hst := run_storeCells_at P g (o + n * i.size) e' news 0 cur w hg (by simpa using hfit) h1
  simp only [Nat.add_zero] at hst
  simp [Builtin.append_, run_underlying ht, run_underlying ht2, sizeOf, typeInfo, hi, Builtin.lenOf, hroom, hf, add_none, hst]

theorem run_append_far (w : World) (t t2 ty e e2 : TypeId) (i : TypeInfo) (z : Value) (ht : P.underlying t = some (.slice e)) (ht2 : P.underlying t2 = some (.slice e2)) (hi : P.info? e = some i) (hz : i.zero = some z)
    (b : Option Addr) (sLen sCap : Nat) (olds : List Value) (hlo : olds.length = sLen * i.size) (hb0 : b = none → sLen = 0)
    (holds : ∀ b', b = some b' → ∀ j v, olds[j]? = some v → w.cell? (b'.add j) = some v)
    (a : Addr) (n c : Nat) (news : List Value) (hl : news.length = n * i.size) (hnews : ∀ j v, news[j]? = some v → w.cell? (a.add j) = some v)
    (hg : sCap < sLen + n) (hbytes : (sLen + n) * i.bytes ≤ 140737488355328) (h63 : sLen + n ≤ 9223372036854775807) :
    (Builtin.append_ #[t, t2] ty #[.slice b sLen sCap, .slice (some a) n c]).run P w =
      .ok (.slice (some ⟨w.heap.size, 0, none⟩) (sLen + n) (grownCap w (sLen + n) sCap e))
        (w.drew.alloc (.cells (olds ++ (news ++ (Builtin.zeroCells z.cells (grownCap w (sLen + n) sCap e - (sLen + n))).toList)).toArray e)) := by
  have hn : ¬ (sLen + n ≤ sCap) := by omega
  have h63' : ¬ (9223372036854775807 < ((sLen : Int) + (n : Int))) := by omega
  have h48 := growslice_fits (need := sLen + n) (old := sCap) (by omega) hbytes
  have h48' : ¬ (281474976710656 < Builtin.nextslicecap (sLen + n) sCap * i.bytes) := by omega
  have hf := run_firstCells_some (P := P) w.drew i.size n a n c news hl (by simpa using hnews)
  have hfo : (Builtin.firstCells i.size sLen (.slice b sLen sCap)).run P w.drew = .ok olds.toArray w.drew := by
    cases b with
    | none =>
      have : sLen = 0 := hb0 rfl
      subst this
      have : olds = [] := List.eq_nil_of_length_eq_zero (by simpa using hlo)
      subst this
      simp [Builtin.firstCells]
    | some b' => exact run_firstCells_some (P := P) w.drew i.size sLen b' sLen sCap olds hlo (by simpa using holds b' rfl)
  simp [Builtin.append_, run_underlying ht, run_underlying ht2, sizeOf, typeInfo, zeroValue, hi, hz, Builtin.lenOf, hn, h63', h48', Question.forced, hf, hfo, newRow, grownCap]
  congr 2
  apply Array.ext'
  simp

/-- append of nothing. -/
theorem run_append_none (w : World) (t t2 ty e e2 : TypeId) (i : TypeInfo) (ht : P.underlying t = some (.slice e)) (ht2 : P.underlying t2 = some (.slice e2)) (hi : P.info? e = some i)
    (b : Option Addr) (n cap : Nat) (hcap : n ≤ cap) (a : Option Addr) (c : Nat) :
    (Builtin.append_ #[t, t2] ty #[.slice b n cap, .slice a 0 c]).run P w = .ok (.slice b n cap) w := by
  cases a <;> cases b <;> simp [Builtin.append_, run_underlying ht, run_underlying ht2, sizeOf, typeInfo, hi, Builtin.lenOf, hcap, Builtin.firstCells, loadCells, loadCellsFrom, storeCells]
end
end Go.Sx
