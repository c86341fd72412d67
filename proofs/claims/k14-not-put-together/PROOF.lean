import PyProof.Rows.All
import HandS.ForMost
import HandS.Walk
import HandS.ForExc
import HandS.TupAny
import HandS.Deep
import HandS.Lambda
import HandS.ExcCtx
import HandS.ExcInit
import HandS.ExcOwn
import HandS.WordsExc
import HandS.ClsMeth
import HandS.HeadHook1
import HandS.TupMul
import HandS.Style
import HandS.NoneIn
import PyProof.ListMulRoad
import PyProof.FactsAll.tuple_2
import HandS.IsInst
import HandS.Conv
import HandS.SortOrd
import KE.SortData
import HandS.Strs
import HandS.Zip
import KE.GoesZip
import KE.GoesMore
import KE.GoesEnum
import HandS.WordsDict
import KE.KDictPairs
import KE.KDictZip
import HandS.SetFor
import HandS.Flow
import HandS.Defaults
import HandS.HotCalls
import HandS.ExcIs
import HandS.ExcField
import HandS.HeadEnd
import HandS.Head0
import HandS.Head1
import HandS.Head2
import HandS.HeadHook2
import HandS.EndTab
import HandS.Codes
import KE.KStateDown
import PySem.Challenge.RW_steerloom_k14_what_can_not_be_put_togeth
section
set_option Elab.async false
set_option linter.all false
set_option maxRecDepth 100000
set_option autoImplicit false
/-! DL1: deep values, worlds, the lifting of pure meanings to the readings of HandS. -/
namespace DL
open PySem PySem.Spec PyProof.Rows L2

inductive D where
  | non | bl (b : Bool) | int (i : Int) | str (x : Str)
  | tup (l : List D) | lst (l : List D) | bag (n : Nat) | scr (ns : List Int)
  | dct (l : List (D × D)) | ins (c : Nat) (fs : List (Str × D))
  deriving Inhabited

mutual
def toPy : D → PyData
  | .non => .none
  | .bl b => .bool b
  | .int i => .int i
  | .str x => .str x
  | .tup l => .tuple (toPys l)
  | .lst l => .list (toPys l)
  | .bag _ => .dict []
  | .scr _ => .dict []
  | .dct _ => .dict []
  | .ins _ _ => .dict []
def toPys : List D → List PyData
  | [] => []
  | d :: r => toPy d :: toPys r
end
mutual
def plain : D → Bool
  | .non => true
  | .bl _ => true
  | .int _ => true
  | .str _ => true
  | .tup l => plains l
  | .lst l => plains l
  | .bag _ => false
  | .scr _ => false
  | .dct _ => false
  | .ins _ _ => false
def plains : List D → Bool
  | [] => true
  | d :: r => plain d && plains r
end

/-- the content of an own object -/
inductive Cont where
  | lst (l : List D)
  | dct (l : List (D × D))
  deriving Inhabited
def Cont.d : Cont → D
  | .lst l => .lst l
  | .dct l => .dct l
inductive Slot where
  | val (d : D)
  | own (c : Cont)
  deriving Inhabited
/-- what an expression gives: a value; a new object of one's own; a look at one -/
inductive R where
  | val (d : D)
  | own (c : Cont)
  | bor (d : D)
  deriving Inhabited
def R.d : R → D
  | .val d => d
  | .own c => c.d
  | .bor d => d
abbrev Store := List (List Int)
/-- an exception: its class, its field -/
structure Xn where
  cls : Str
  most : Option Int
structure Sta where
  ρ : List (Option Slot)
  S : Store
inductive Out (α : Type) where
  | ok (a : α) (s : Sta)
  | ex (x : Xn) (s : Sta)
  | no
inductive FOut where
  | ok (r : R) (S : Store)
  | ex (x : Xn) (S : Store)
  | no
abbrev PhiT := Nat → List D → Store → FOut
abbrev M (α : Type) := PhiT → Sta → Out α
def Out.bind {α β : Type} (o : Out α) (f : α → Sta → Out β) : Out β :=
  match o with
  | .ok a s => f a s
  | .ex x s => .ex x s
  | .no => .no
def M.pure {α : Type} (a : α) : M α := fun _ s => .ok a s
def M.bind {α β : Type} (m : M α) (f : α → M β) : M β := fun Φ s => (m Φ s).bind fun a s' => f a Φ s'
instance : Monad M where
  pure := M.pure
  bind := M.bind
def M.no {α : Type} : M α := fun _ _ => .no

/-! ### representation -/
def keyD : Key → D
  | .inl i => .int i
  | .inr x => .str x
mutual
inductive Rep (F : Hp) (B : List Addr) : V → D → Prop
  | non : Rep F B .non .non
  | bl (b : Bool) : Rep F B (.bl b) (.bl b)
  | int (i : Int) : Rep F B (.int i) (.int i)
  | str (x : Str) (h : PyData.strOk x = true) : Rep F B (.str x) (.str x)
  | tup {a : Addr} {xs : List V} {ds : List D} : F a = some (.tup xs) → Reps F B xs ds → Rep F B (.ref a) (.tup ds)
  | lst {a : Addr} {xs : List V} {ds : List D} : F a = some (.lst xs) → Reps F B xs ds → Rep F B (.ref a) (.lst ds)
  | scr {a : Addr} {o : HO} {ns : List Int} : F a = some o → (o = .lst (ns.map V.int) ∨ ∃ ob, o = .frz ob (.lst (ns.map V.int))) → Rep F B (.ref a) (.scr ns)
  | bag {a : Addr} {n : Nat} : B[n]? = some a → Rep F B (.ref a) (.bag n)
  | dK {a : Addr} {kvs : List (Key × V)} {l : List (D × D)} : F a = some (.dK kvs) → RepK F B kvs l → Rep F B (.ref a) (.dct l)
inductive Reps (F : Hp) (B : List Addr) : List V → List D → Prop
  | nil : Reps F B [] []
  | cons {v : V} {d : D} {vs : List V} {ds : List D} : Rep F B v d → Reps F B vs ds → Reps F B (v :: vs) (d :: ds)
inductive RepK (F : Hp) (B : List Addr) : List (Key × V) → List (D × D) → Prop
  | nil : RepK F B [] []
  | cons {k : Key} {v : V} {d : D} {vs : List (Key × V)} {ds : List (D × D)} : Rep F B v d → RepK F B vs ds → RepK F B ((k, v) :: vs) ((keyD k, d) :: ds)
end
/-- an own object -/
inductive ORep (F : Hp) (B : List Addr) : HO → Cont → Prop
  | lst {xs : List V} {ds : List D} : Reps F B xs ds → ORep F B (.lst xs) (.lst ds)
  | dK {kvs : List (Key × V)} {l : List (D × D)} : RepK F B kvs l → ORep F B (.dK kvs) (.dct l)
theorem Rep.of_o {F : Hp} {B : List Addr} {a : Addr} {o : HO} {c : Cont} (h : F a = some o) (r : ORep F B o c) : Rep F B (.ref a) c.d := by
  cases r with
  | lst r => exact .lst h r
  | dK r => exact .dK h r
section
variable {F F' : Hp} {B B' : List Addr}
mutual
theorem Rep.mono (hf : ∀ a o, F a = some o → F' a = some o) (hb : ∀ (n : Nat) (a : Addr), B[n]? = some a → B'[n]? = some a) : ∀ {v : V} {d : D}, Rep F B v d → Rep F' B' v d
  | _, _, .non => .non
  | _, _, .bl b => .bl b
  | _, _, .int i => .int i
  | _, _, .str x h => .str x h
  | _, _, .tup h r => .tup (hf _ _ h) (Reps.mono hf hb r)
  | _, _, .lst h r => .lst (hf _ _ h) (Reps.mono hf hb r)
  | _, _, .scr h z => .scr (hf _ _ h) z
  | _, _, .bag h => .bag (hb _ _ h)
  | _, _, .dK h r => .dK (hf _ _ h) (RepK.mono hf hb r)
theorem Reps.mono (hf : ∀ a o, F a = some o → F' a = some o) (hb : ∀ (n : Nat) (a : Addr), B[n]? = some a → B'[n]? = some a) : ∀ {vs : List V} {ds : List D}, Reps F B vs ds → Reps F' B' vs ds
  | _, _, .nil => .nil
  | _, _, .cons h r => .cons (Rep.mono hf hb h) (Reps.mono hf hb r)
theorem RepK.mono (hf : ∀ a o, F a = some o → F' a = some o) (hb : ∀ (n : Nat) (a : Addr), B[n]? = some a → B'[n]? = some a) : ∀ {vs : List (Key × V)} {ds : List (D × D)}, RepK F B vs ds → RepK F' B' vs ds
  | _, _, .nil => .nil
  | _, _, .cons h r => .cons (Rep.mono hf hb h) (RepK.mono hf hb r)
end
theorem ORep.mono (hf : ∀ a o, F a = some o → F' a = some o) (hb : ∀ (n : Nat) (a : Addr), B[n]? = some a → B'[n]? = some a) {o : HO} {c : Cont} (r : ORep F B o c) : ORep F' B' o c := by
  cases r with
  | lst r => exact .lst (r.mono hf hb)
  | dK r => exact .dK (r.mono hf hb)
theorem Reps.length : ∀ {vs : List V} {ds : List D}, Reps F B vs ds → vs.length = ds.length
  | _, _, .nil => rfl
  | _, _, .cons _ r => by simp [Reps.length r]
theorem Reps.get : ∀ {vs : List V} {ds : List D} {i : Nat} {d : D}, Reps F B vs ds → ds[i]? = some d → ∃ v, vs[i]? = some v ∧ Rep F B v d
  | _, _, _, _, .nil, e => by simp at e
  | _, _, 0, _, .cons h _, e => by simp at e; subst e; exact ⟨_, rfl, h⟩
  | _, _, i + 1, d, .cons _ r, e => by
    obtain ⟨v, h1, h2⟩ := Reps.get (i := i) (d := d) r (by simpa using e)
    exact ⟨v, by simpa using h1, h2⟩
theorem Reps.get' : ∀ {vs : List V} {ds : List D} {i : Nat} {v : V}, Reps F B vs ds → vs[i]? = some v → ∃ d, ds[i]? = some d ∧ Rep F B v d
  | _, _, _, _, .nil, e => by simp at e
  | _, _, 0, _, .cons h _, e => by simp at e; subst e; exact ⟨_, rfl, h⟩
  | _, _, i + 1, v, .cons _ r, e => by
    obtain ⟨d, h1, h2⟩ := Reps.get' (i := i) (v := v) r (by simpa using e)
    exact ⟨d, by simpa using h1, h2⟩
theorem Reps.append : ∀ {vs us : List V} {ds es : List D}, Reps F B vs ds → Reps F B us es → Reps F B (vs ++ us) (ds ++ es)
  | _, _, _, _, .nil, s => s
  | _, _, _, _, .cons h r, s => .cons h (Reps.append r s)
theorem Reps.take : ∀ {vs : List V} {ds : List D} (n : Nat), Reps F B vs ds → Reps F B (vs.take n) (ds.take n)
  | _, _, 0, _ => by simp; exact .nil
  | _, _, _ + 1, .nil => by simp; exact .nil
  | _, _, n + 1, .cons h r => by simp; exact .cons h (Reps.take n r)
theorem Reps.drop : ∀ {vs : List V} {ds : List D} (n : Nat), Reps F B vs ds → Reps F B (vs.drop n) (ds.drop n)
  | _, _, 0, r => by simpa using r
  | _, _, _ + 1, .nil => by simp; exact .nil
  | _, _, n + 1, .cons _ r => by simp; exact Reps.drop n r
theorem Reps.reverse : ∀ {vs : List V} {ds : List D}, Reps F B vs ds → Reps F B vs.reverse ds.reverse
  | _, _, .nil => .nil
  | _, _, .cons h r => by
    rw [List.reverse_cons, List.reverse_cons]
    exact (Reps.reverse r).append (.cons h .nil)
theorem Reps.set {v : V} {d : D} (h : Rep F B v d) : ∀ {vs : List V} {ds : List D} (i : Nat), Reps F B vs ds → Reps F B (vs.set i v) (ds.set i d)
  | _, _, _, .nil => by simp; exact .nil
  | _, _, 0, .cons _ r => .cons h r
  | _, _, i + 1, .cons q r => .cons q (Reps.set h i r)
theorem Reps.erase : ∀ {vs : List V} {ds : List D} (i : Nat), Reps F B vs ds → Reps F B (vs.eraseIdx i) (ds.eraseIdx i)
  | _, _, _, .nil => by simp; exact .nil
  | _, _, 0, .cons _ r => r
  | _, _, i + 1, .cons q r => .cons q (Reps.erase i r)
theorem Reps.dropLast {vs : List V} {ds : List D} (r : Reps F B vs ds) : Reps F B vs.dropLast ds.dropLast := by
  rw [List.dropLast_eq_take, List.dropLast_eq_take, r.length]
  exact r.take _
theorem Reps.ints : ∀ (ns : List Int), Reps F B (ns.map V.int) (ns.map D.int)
  | [] => .nil
  | n :: r => .cons (.int n) (Reps.ints r)
theorem Reps.rep {vs : List V} {ds : List D} (r : Reps F B vs ds) : ∀ n, Reps F B (List.replicate n vs).flatten (List.replicate n ds).flatten
  | 0 => by simp; exact .nil
  | n + 1 => by
    rw [List.replicate_succ, List.replicate_succ, List.flatten_cons, List.flatten_cons]
    exact r.append (Reps.rep r n)
mutual
theorem Rep.dp {H : Hp} (K : PySem.W.Frag) (hs : ∀ a o, F a = some o → H a = some o) : ∀ {v : V} {d : D}, Rep F B v d → plain d = true → Dp K H v (toPy d)
  | _, _, .non, _ => .non
  | _, _, .bl b, _ => .bl b
  | _, _, .int i, _ => .int i
  | _, _, .str x _, _ => .str x
  | _, _, .tup h r, p => .tup (.inl (.inl (hs _ _ h))) (Reps.dp K hs r p)
  | _, _, .lst h r, p => .lst (.inl (.inl (hs _ _ h))) (Reps.dp K hs r p)
  | _, _, .scr _ _, p => nomatch p
  | _, _, .bag _, p => nomatch p
  | _, _, .dK _ _, p => nomatch p
theorem Reps.dp {H : Hp} (K : PySem.W.Frag) (hs : ∀ a o, F a = some o → H a = some o) : ∀ {vs : List V} {ds : List D}, Reps F B vs ds → plains ds = true → DpAll K H vs (toPys ds)
  | _, _, .nil, _ => .nil
  | _, _, .cons h r, p => .cons (Rep.dp K hs h (Bool.and_eq_true_iff.mp p).1) (Reps.dp K hs r (Bool.and_eq_true_iff.mp p).2)
end
mutual
theorem Rep.lay : ∀ {v : V} {d : D}, Rep F B v d → plain d = true → (toPy d).canLay0 = true
  | _, _, .non, _ => rfl
  | _, _, .bl b, _ => rfl
  | _, _, .int i, _ => rfl
  | _, _, .str x h, _ => h
  | _, _, .tup h r, p => Reps.lay r p
  | _, _, .lst h r, p => Reps.lay r p
  | _, _, .scr _ _, p => nomatch p
  | _, _, .bag _, p => nomatch p
  | _, _, .dK _ _, p => nomatch p
theorem Reps.lay : ∀ {vs : List V} {ds : List D}, Reps F B vs ds → plains ds = true → PyData.canLayAll0 (toPys ds) = true
  | _, _, .nil, _ => rfl
  | _, _, .cons h r, p => Bool.and_eq_true_iff.mpr ⟨Rep.lay h (Bool.and_eq_true_iff.mp p).1, Reps.lay r (Bool.and_eq_true_iff.mp p).2⟩
end
end
/-- a look: the object itself may be one's own -/
inductive Pk (H F : Hp) (B : List Addr) : V → D → Prop
  | rep {v : V} {d : D} : Rep F B v d → Pk H F B v d
  | lst {a : Addr} {xs : List V} {ds : List D} : H a = some (.lst xs) → a ∉ B → Reps F B xs ds → Pk H F B (.ref a) (.lst ds)
  | dK {a : Addr} {kvs : List (Key × V)} {l : List (D × D)} : H a = some (.dK kvs) → a ∉ B → RepK F B kvs l → Pk H F B (.ref a) (.dct l)
theorem Pk.of_o {H F : Hp} {B : List Addr} {a : Addr} {o : HO} {c : Cont} (h : H a = some o) (hb : a ∉ B) (r : ORep F B o c) : Pk H F B (.ref a) c.d := by
  cases r with
  | lst r => exact .lst h hb r
  | dK r => exact .dK h hb r

/-! ### worlds -/
structure Wl where
  F : Hp
  B : List Addr
  S : Store
  ρ : List (Option Slot)
/-- a frame's beginning -/
structure Fr where
  mg : Str → Option Value
  T : List (Addr × Str)
  H0 : Hp
  F0 : Hp
  B0 : List Addr
/-- no table of code objects -/
def nt (o : HO) : Prop := ∀ ps, o ≠ .tbl ps
theorem nt_lst {xs : List V} : nt (.lst xs) := fun _ h => nomatch h
theorem nt_tup {xs : List V} : nt (.tup xs) := fun _ h => nomatch h
theorem nt_dK {xs : List (Key × V)} : nt (.dK xs) := fun _ h => nomatch h
theorem ORep.nt {F : Hp} {B : List Addr} {o : HO} {c : Cont} (r : ORep F B o c) : DL.nt o := by
  cases r with
  | lst r => exact nt_lst
  | dK r => exact nt_dK
def nx (o : HO) : Prop := nt o ∧ ∀ f, o ≠ .ext f
theorem ORep.nx {F : Hp} {B : List Addr} {o : HO} {c : Cont} (r : ORep F B o c) : DL.nx o := by
  cases r with
  | lst r => exact ⟨nt_lst, fun _ h => nomatch h⟩
  | dK r => exact ⟨nt_dK, fun _ h => nomatch h⟩
theorem nx_lst {xs : List V} : nx (.lst xs) := ⟨nt_lst, fun _ h => nomatch h⟩
theorem tabs_upd {T : List (Addr × Str)} {H : Hp} {a : Addr} {o0 o : HO} (t : LamX.Tabs T H) (h : H a = some o0) (hx : nx o0) : LamX.Tabs T (upd H a o) := fun p hp => by
  obtain ⟨ps, h1, h2, h3⟩ := t p hp
  refine ⟨ps, ?_, h2, fun pos cv hc => ?_⟩
  · rw [upd_ne (fun z => by rw [z, h] at h1; exact hx.1 ps (Option.some.inj h1))]; exact h1
  · obtain ⟨c, e1, e2⟩ := h3 pos cv hc
    refine ⟨c, e1, ?_⟩
    rw [upd_ne (fun z => by rw [z, h] at e2; exact hx.2 _ (Option.some.inj e2))]; exact e2
structure Good (T : List (Addr × Str)) (H : Hp) (w : Wl) : Prop where
  sub : ∀ a o, w.F a = some o → H a = some o
  fn : ∀ a o, w.F a = some o → nt o
  tab : LamX.Tabs T H
  nd : w.B.Nodup
  fb : ∀ a ∈ w.B, w.F a = none
  bag : Paired (fun a ns => H a = some (.lst ((ns : List Int).map V.int))) w.B w.S
structure Stp (H : Hp) (F : Hp) (B : List Addr) (O : Addr → Prop) (H' : Hp) (w' : Wl) : Prop where
  keep : ∀ a o, H a = some o → nt o → a ∉ B → ¬ O a → H' a = some o
  sub : ∀ a o, F a = some o → w'.F a = some o
  bags : ∃ C, w'.B = B ++ C ∧ ∀ c ∈ C, H c = none
  fz : ∀ a o, w'.F a = some o → F a = some o ∨ H a = none ∨ O a
  there : ∀ a o, H a = some o → ∃ o', H' a = some o'
def CRep (H F : Hp) (B : List Addr) (a : Addr) (c : Cont) : Prop := ∃ o, H a = some o ∧ ORep F B o c
def OwnAt (σ : L2.St) (ρ : List (Option Slot)) (i : Nat) (a : Addr) : Prop := ∃ c, ρ[i]? = some (some (.own c)) ∧ σ[i]? = some (some (.ref a))
def Own (σ : L2.St) (ρ : List (Option Slot)) (a : Addr) : Prop := ∃ i, OwnAt σ ρ i a
structure Slots (H0 : Hp) (σ : L2.St) (H : Hp) (w : Wl) : Prop where
  val : ∀ (i : Nat) (d : D), w.ρ[i]? = some (some (.val d)) → ∃ v : V, σ[i]? = some (some v) ∧ Rep w.F w.B v d
  own : ∀ (i : Nat) (c : Cont), w.ρ[i]? = some (some (.own c)) → ∃ a : Addr, σ[i]? = some (some (V.ref a)) ∧ H0 a = none ∧ w.F a = none ∧ a ∉ w.B ∧ CRep H w.F w.B a c
  inj : ∀ (i j : Nat) (a : Addr), OwnAt σ w.ρ i a → OwnAt σ w.ρ j a → i = j
  len : w.ρ.length = σ.length
structure At (fr : Fr) (σ : L2.St) (H : Hp) (w : Wl) : Prop where
  good : Good fr.T H w
  stp : Stp fr.H0 fr.F0 fr.B0 (fun _ => False) H w
  slots : Slots fr.H0 σ H w
/-- on in an expression: no own object is touched -/
structure Nx (σ : L2.St) (H : Hp) (w : Wl) (H' : Hp) (w' : Wl) : Prop where
  keep : ∀ a o, H a = some o → nt o → a ∉ w.B → H' a = some o
  sub : ∀ a o, w.F a = some o → w'.F a = some o
  bags : ∃ C, w'.B = w.B ++ C ∧ ∀ c ∈ C, H c = none
  fz : ∀ a o, w'.F a = some o → w.F a = some o ∨ H a = none ∨ Own σ w.ρ a
  there : ∀ a o, H a = some o → ∃ o', H' a = some o'
  own : ∀ a, Own σ w'.ρ a → Own σ w.ρ a
section
variable {fr : Fr} {σ : L2.St} {H H1 H2 : Hp} {w w1 w2 : Wl}
theorem Nx.refl : Nx σ H w H w := ⟨fun _ _ h _ _ => h, fun _ _ h => h, ⟨[], by simp, by simp⟩, fun _ _ h => .inl h, fun _ o h => ⟨o, h⟩, fun _ h => h⟩
theorem Nx.bmono (n : Nx σ H w H1 w1) : ∀ (i : Nat) a, w.B[i]? = some a → w1.B[i]? = some a := by
  obtain ⟨C, e, _⟩ := n.bags
  intro i a h
  rw [e, List.getElem?_append_left (List.getElem?_eq_some_iff.mp h).1]
  exact h
theorem none_back {a : Addr} (n : ∀ a o, H a = some o → ∃ o', H1 a = some o') (h : H1 a = none) : H a = none := by
  cases e : H a with
  | none => rfl
  | some o =>
    obtain ⟨o', z⟩ := n a o e
    rw [h] at z
    cases z
theorem Nx.trans (a : Nx σ H w H1 w1) (b : Nx σ H1 w1 H2 w2) : Nx σ H w H2 w2 where
  keep := fun x o h hn nb => b.keep x o (a.keep x o h hn nb) hn fun hb => by
    obtain ⟨C, e, hC⟩ := a.bags
    rw [e] at hb
    rcases List.mem_append.mp hb with z | z
    · exact nb z
    · rw [hC x z] at h; cases h
  sub := fun x o h => b.sub x o (a.sub x o h)
  bags := by
    obtain ⟨C, e, hC⟩ := a.bags
    obtain ⟨C', e', hC'⟩ := b.bags
    refine ⟨C ++ C', by rw [e', e, List.append_assoc], fun c hc => ?_⟩
    rcases List.mem_append.mp hc with z | z
    · exact hC c z
    · exact none_back a.there (hC' c z)
  fz := fun x o h => by
    rcases b.fz x o h with z | z | z
    · exact a.fz x o z
    · exact .inr (.inl (none_back a.there z))
    · exact .inr (.inr (a.own x z))
  there := fun x o h => by
    obtain ⟨o', z⟩ := a.there x o h
    exact b.there x o' z
  own := fun x h => a.own x (b.own x h)
theorem Nx.rep (n : Nx σ H w H1 w1) {v : V} {d : D} (r : Rep w.F w.B v d) : Rep w1.F w1.B v d := r.mono n.sub n.bmono
theorem Nx.reps (n : Nx σ H w H1 w1) {v : List V} {d : List D} (r : Reps w.F w.B v d) : Reps w1.F w1.B v d := r.mono n.sub n.bmono
theorem At.ownfree (A : At fr σ H w) {a : Addr} (h : Own σ w.ρ a) : fr.H0 a = none ∧ w.F a = none ∧ a ∉ w.B ∧ ∃ o, H a = some o := by
  obtain ⟨i, c, h1, h2⟩ := h
  obtain ⟨b, e1, e2, e3, e4, e5⟩ := A.slots.own i c h1
  rw [h2] at e1
  cases e1
  exact ⟨e2, e3, e4, _, e5.choose_spec.1⟩
theorem Good.bagobj {T : List (Addr × Str)} (g : Good T H w) {a : Addr} (h : a ∈ w.B) : ∃ ns : List Int, H a = some (.lst (ns.map V.int)) := by
  have key : ∀ {B : List Addr} {S : Store}, Paired (fun a ns => H a = some (.lst ((ns : List Int).map V.int))) B S → a ∈ B → ∃ ns : List Int, H a = some (.lst (ns.map V.int)) := by
    intro B S p
    induction p with
    | nil => intro h; cases h
    | cons q _ ih =>
      intro h
      rcases List.mem_cons.mp h with rfl | h
      · exact ⟨_, q⟩
      · exact ih h
  exact key g.bag h
end
/-! ### what comes out, lifted -/
/-- how a result stands for a meaning: the heap at the start, the heap, the world -/
abbrev Rl (α β : Type) := Hp → Hp → Wl → β → α → Prop
def Anti {α β : Type} (Rel : Rl α β) : Prop := ∀ (H H1 H2 : Hp) (w : Wl) (b : β) (a : α), (∀ x o, H x = some o → ∃ o', H1 x = some o') → Rel H1 H2 w b a → Rel H H2 w b a
/-- an exception as it lies -/
def XOk (mg : Str → Option Value) (x : Xn) (c : Value) (d : Option Addr) (H : Hp) : Prop :=
  mg x.cls = some c ∧ match x.most with
    | none => d = none
    | some i => ∃ a, d = some a ∧ H a = some (.xd [("most", .int i)])
def ResG {α β : Type} (fr : Fr) (W : WX) (σ : L2.St) (H : Hp) (w : Wl) (Rel : Rl α β) (Q : β → Hp → Prop) : Out α → Prop
  | .ok r s' => ∀ b H' w', w'.ρ = s'.ρ → w'.S = s'.S → At fr σ H' w' → Nx σ H w H' w' → Rel H H' w' b r → Q b H'
  | .ex x s' => ∀ c d H' w', w'.ρ = s'.ρ → w'.S = s'.S → At fr σ H' w' → XOk fr.mg x c d H' → W c d σ H'
  | .no => False
def LiftG {α β : Type} (fr : Fr) (W : WX) (Φ : PhiT) (Rel : Rl α β) (m : M α) : L2.St → Hp → (β → Hp → Prop) → Prop := fun σ H Q =>
  ∃ w, At fr σ H w ∧ ResG fr W σ H w Rel Q (m Φ ⟨w.ρ, w.S⟩)
section
variable {α β α' β' : Type} {fr : Fr} {W : WX} {Φ : PhiT} {σ : L2.St} {H : Hp} {w : Wl} {Rel : Rl α β} {Rel' : Rl α' β'} {Q : β → Hp → Prop} {Q' : β' → Hp → Prop}
theorem ResG.imp {Q2 : β → Hp → Prop} {o : Out α} (h : ResG fr W σ H w Rel Q o) (hq : ∀ b H', Q b H' → Q2 b H') : ResG fr W σ H w Rel Q2 o := by
  cases o with
  | ok r s => exact fun b H' w' e1 e2 A N R => hq b H' (h b H' w' e1 e2 A N R)
  | ex x s => exact h
  | no => exact h
theorem ResG.bind {o : Out α'} {f : α' → Sta → Out α} (ha : Anti Rel) (h : ResG fr W σ H w Rel Q (o.bind f)) :
    ResG fr W σ H w Rel' (fun b H1 => ∃ a w1, At fr σ H1 w1 ∧ Nx σ H w H1 w1 ∧ Rel' H H1 w1 b a ∧ ResG fr W σ H1 w1 Rel Q (f a ⟨w1.ρ, w1.S⟩)) o := by
  cases o with
  | ok r s =>
    intro b H1 w1 e1 e2 A N R
    refine ⟨r, w1, A, N, R, ?_⟩
    have h' : ResG fr W σ H w Rel Q (f r s) := h
    have e : (⟨w1.ρ, w1.S⟩ : Sta) = s := by cases s; simp_all
    rw [e]
    generalize f r s = o2 at h' ⊢
    cases o2 with
    | ok r2 s2 => exact fun b2 H2 w2 e3 e4 A2 N2 R2 => h' b2 H2 w2 e3 e4 A2 (N.trans N2) (ha _ _ _ _ _ _ N.there R2)
    | ex x s2 => exact h'
    | no => exact h'
  | ex x s => exact h
  | no => exact h
theorem LiftG.imp {Q2 : β → Hp → Prop} {m : M α} (h : LiftG fr W Φ Rel m σ H Q) (hq : ∀ b H', Q b H' → Q2 b H') : LiftG fr W Φ Rel m σ H Q2 := by
  obtain ⟨w, A, r⟩ := h
  exact ⟨w, A, r.imp hq⟩
/-- an answer, the world as it is -/
theorem ResG.here {r : α} (h : ResG fr W σ H w Rel Q (.ok r ⟨w.ρ, w.S⟩)) (A : At fr σ H w) {b : β} (R : Rel H H w b r) : Q b H := h b H w rfl rfl A .refl R
/-- a new object -/
theorem At.push (A : At fr σ H w) {p : Addr} {o : HO} (hp : H p = none) : At fr σ (upd H p o) w := by
  have keep : ∀ a u, H a = some u → upd H p o a = some u := fun a u h => by rw [upd_ne (ne_of_none h hp)]; exact h
  have cr : ∀ a c, CRep H w.F w.B a c → CRep (upd H p o) w.F w.B a c := fun a c h => by
    obtain ⟨u, h1, h2⟩ := h; exact ⟨u, keep _ _ h1, h2⟩
  refine ⟨⟨fun a u h => keep a u (A.good.sub a u h), A.good.fn, A.good.tab.ext keep, A.good.nd, A.good.fb, ?_⟩, ⟨fun a u h hn nb no => keep a u (A.stp.keep a u h hn nb no), A.stp.sub, A.stp.bags, A.stp.fz, fun a u h => ?_⟩, ⟨A.slots.val, fun i c h => ?_, A.slots.inj, A.slots.len⟩⟩
  · have key : ∀ {B : List Addr} {S : Store}, Paired (fun a ns => H a = some (.lst ((ns : List Int).map V.int))) B S → Paired (fun a ns => upd H p o a = some (.lst ((ns : List Int).map V.int))) B S := by
      intro B S q
      induction q with
      | nil => exact .nil
      | cons q _ ih => exact .cons (keep _ _ q) ih
    exact key A.good.bag
  · obtain ⟨o', z⟩ := A.stp.there a u h
    exact ⟨o', keep _ _ z⟩
  · obtain ⟨a, h1, h2, h3, h4, h5⟩ := A.slots.own i c h
    exact ⟨a, h1, h2, h3, h4, cr _ _ h5⟩
theorem Nx.push {p : Addr} {o : HO} (hp : H p = none) : Nx σ H w (upd H p o) w :=
  ⟨fun a u h _ _ => by rw [upd_ne (ne_of_none h hp)]; exact h, fun _ _ h => h, ⟨[], by simp, by simp⟩, fun _ _ h => .inl h, fun a u h => ⟨u, by rw [upd_ne (ne_of_none h hp)]; exact h⟩, fun _ h => h⟩
/-- an object that nobody else holds is shut -/
def Wl.shut (w : Wl) (p : Addr) (o : HO) : Wl := { w with F := upd w.F p o }
theorem At.shut (A : At fr σ H w) {p : Addr} {o : HO} (hn : nt o) (hp : H p = some o) (h0 : fr.H0 p = none) (hf : w.F p = none) (hb : p ∉ w.B) (ho : ¬ Own σ w.ρ p) : At fr σ H (w.shut p o) := by
  have fs : ∀ a u, w.F a = some u → (w.shut p o).F a = some u := fun a u h => by
    show upd w.F p o a = some u
    rw [upd_ne (ne_of_none h hf)]; exact h
  have bs : ∀ (n : Nat) (a : Addr), w.B[n]? = some a → (w.shut p o).B[n]? = some a := fun _ _ h => h
  refine ⟨⟨fun a u h => ?_, fun a u h => ?_, A.good.tab, A.good.nd, fun a ha => ?_, A.good.bag⟩, ⟨A.stp.keep, fun a u h => fs a u (A.stp.sub a u h), A.stp.bags, fun a u h => ?_, A.stp.there⟩, ⟨fun i d h => ?_, fun i c h => ?_, A.slots.inj, A.slots.len⟩⟩
  · by_cases e : a = p
    · subst e
      have h' : upd w.F a o a = some u := h
      rw [upd_same] at h'; rw [← h']; exact hp
    · have h' : upd w.F p o a = some u := h
      rw [upd_ne e] at h'; exact A.good.sub a u h'
  · by_cases e : a = p
    · subst e
      have h' : upd w.F a o a = some u := h
      rw [upd_same] at h'; rw [← Option.some.inj h']; exact hn
    · have h' : upd w.F p o a = some u := h
      rw [upd_ne e] at h'; exact A.good.fn a u h'
  · show upd w.F p o a = none
    rw [upd_ne (fun e => hb (by rw [← e]; exact ha))]; exact A.good.fb a ha
  · by_cases e : a = p
    · exact .inr (.inl (e ▸ h0))
    · have h' : upd w.F p o a = some u := h
      rw [upd_ne e] at h'; exact A.stp.fz a u h'
  · obtain ⟨v, h1, h2⟩ := A.slots.val i d h
    exact ⟨v, h1, h2.mono fs bs⟩
  · obtain ⟨a, h1, h2, h3, h4, h5⟩ := A.slots.own i c h
    have ne : a ≠ p := fun e => ho ⟨i, c, h, e ▸ h1⟩
    refine ⟨a, h1, h2, by show upd w.F p o a = none; rw [upd_ne ne]; exact h3, h4, ?_⟩
    obtain ⟨u, z1, z2⟩ := h5; exact ⟨u, z1, z2.mono fs bs⟩
theorem Nx.shut {H' : Hp} {w' : Wl} (n : Nx σ H w H' w') {p : Addr} {o : HO} (hp : H p = none) (hf : w'.F p = none) : Nx σ H w H' (w'.shut p o) :=
  ⟨n.keep, fun a u h => by
    show upd w'.F p o a = some u
    rw [upd_ne (ne_of_none (n.sub a u h) hf)]; exact n.sub a u h, n.bags, fun a u h => by
    by_cases e : a = p
    · exact .inr (.inl (e ▸ hp))
    · have h' : upd w'.F p o a = some u := h
      rw [upd_ne e] at h'; exact n.fz a u h', n.there, n.own⟩
theorem At.newF (A : At fr σ H w) {p : Addr} (hp : H p = none) : w.F p = none := by
  cases e : w.F p with
  | none => rfl
  | some o => have := A.good.sub p o e; rw [hp] at this; cases this
theorem At.newB (A : At fr σ H w) {p : Addr} (hp : H p = none) : p ∉ w.B := fun h => by
  obtain ⟨ns, e⟩ := A.good.bagobj h
  rw [hp] at e; cases e
theorem At.newO (A : At fr σ H w) {p : Addr} (hp : H p = none) : ¬ Own σ w.ρ p := fun h => by
  obtain ⟨_, _, _, o, e⟩ := A.ownfree h
  rw [hp] at e; cases e
theorem At.new0 (A : At fr σ H w) {p : Addr} (hp : H p = none) : fr.H0 p = none := none_back A.stp.there hp
/-- a new object, shut at once -/
theorem At.lay (A : At fr σ H w) {p : Addr} {o : HO} (hn : nt o) (hp : H p = none) : At fr σ (upd H p o) (w.shut p o) :=
  (A.push hp).shut hn upd_same (A.new0 hp) (A.newF hp) (A.newB hp) (A.newO hp)
theorem Nx.lay (A : At fr σ H w) {p : Addr} {o : HO} (hp : H p = none) : Nx σ H w (upd H p o) (w.shut p o) :=
  (Nx.push hp).shut hp (A.newF hp)
end

/-! ### the relations -/
def RelV' : Rl D V := fun _ _ w v d => Rep w.F w.B v d
def RelP : Rl D V := fun _ H w v d => Pk H w.F w.B v d
def RelB : Rl Bool Bool := fun _ _ _ b c => b = c
def RelA : Rl (List D) (List V) := fun _ _ w vs ds => Reps w.F w.B vs ds
def RelR (σ : L2.St) : Rl R V := fun Hs H w v r => match r with
  | .val d => Rep w.F w.B v d
  | .own c => ∃ a, v = .ref a ∧ Hs a = none ∧ w.F a = none ∧ a ∉ w.B ∧ ¬ Own σ w.ρ a ∧ CRep H w.F w.B a c
  | .bor d => Pk H w.F w.B v d
theorem antiV : Anti RelV' := fun _ _ _ _ _ _ _ h => h
theorem antiP : Anti RelP := fun _ _ _ _ _ _ _ h => h
theorem antiB : Anti RelB := fun _ _ _ _ _ _ _ h => h
theorem antiA : Anti RelA := fun _ _ _ _ _ _ _ h => h
theorem antiR {σ : L2.St} : Anti (RelR σ) := fun H H1 H2 w b a k h => by
  cases a with
  | val d => exact h
  | own c => obtain ⟨x, e, h1, h2⟩ := h; exact ⟨x, e, none_back k h1, h2⟩
  | bor d => exact h
abbrev LE (fr : Fr) (W : WX) (Φ : PhiT) (m : M R) : TE := fun σ H Q => LiftG fr W Φ (RelR σ) m σ H Q
abbrev LV (fr : Fr) (W : WX) (Φ : PhiT) (m : M D) : TE := fun σ H Q => LiftG fr W Φ RelV' m σ H Q
abbrev LP (fr : Fr) (W : WX) (Φ : PhiT) (m : M D) : TE := fun σ H Q => LiftG fr W Φ RelP m σ H Q
abbrev LB (fr : Fr) (W : WX) (Φ : PhiT) (m : M Bool) : TT := fun σ H Q => LiftG fr W Φ RelB m σ H Q
abbrev LA (fr : Fr) (W : WX) (Φ : PhiT) (m : M (List D)) : TA := fun σ H Q => LiftG fr W Φ RelA m σ H Q
/-- the value of a result, for a look -/
def mOpd (m : M R) : M D := fun Φ s => (m Φ s).bind fun r s' => .ok r.d s'
/-- the value of a result, to be kept: what is own is shut -/
def mFrz (m : M R) : M D := fun Φ s => (m Φ s).bind fun r s' => match r with
  | .val d => .ok d s'
  | .own c => .ok c.d s'
  | .bor _ => .no
theorem PE.imp {X : Cx} {e : Expr} {t t' : TE} (h : PE X e t) (hi : ∀ σ H Q, t' σ H Q → t σ H Q) : PE X e t' := ⟨fun pins s σ H Q I q => h.run pins s σ H Q I (hi σ H Q q)⟩
theorem PT.imp {X : Cx} {e : Expr} {t t' : TT} (h : PT X e t) (hi : ∀ σ H Q, t' σ H Q → t σ H Q) : PT X e t' := ⟨fun pins s σ H Q I q => h.run pins s σ H Q I (hi σ H Q q)⟩
theorem PA.imp {X : Cx} {e : List Expr} {t t' : TA} (h : PA X e t) (hi : ∀ σ H Q, t' σ H Q → t σ H Q) : PA X e t' := ⟨fun pos pins s σ H Q I q => h.run pos pins s σ H Q I (hi σ H Q q)⟩
theorem PS.imp {X : Cx} {e : Stmt} {t t' : TS} (h : PS X e t) (hi : ∀ D σ H, t' D σ H → t D σ H) : PS X e t' := ⟨fun pins s σ H D I q => h.run pins s σ H D I (hi D σ H q)⟩
theorem PSs.imp {X : Cx} {e : List Stmt} {t t' : TS} (h : PSs X e t) (hi : ∀ D σ H, t' D σ H → t D σ H) : PSs X e t' := ⟨fun pins s σ H D I q => h.run pins s σ H D I (hi D σ H q)⟩
section
variable {fr : Fr} {W : WX} {Φ : PhiT} {X : Cx} {e : Expr} {m : M R}
theorem pk_of {σ : L2.St} {Hs H : Hp} {w : Wl} {v : V} {r : R} (h : RelR σ Hs H w v r) : Pk H w.F w.B v r.d := by
  cases r with
  | val d => exact .rep h
  | own c =>
    obtain ⟨a, rfl, _, _, hb, _, h⟩ := h
    obtain ⟨o, h1, h2⟩ := h; exact .of_o h1 hb h2
  | bor d => exact h
theorem pe_opd (h : PE X e (LE fr W Φ m)) : PE X e (LP fr W Φ (mOpd m)) := by
  refine PE.imp h fun σ H Q ⟨w, A, r⟩ => ⟨w, A, ?_⟩
  refine (ResG.bind (Rel' := RelR σ) antiP r).imp fun b H1 ⟨a, w1, A1, N1, R1, r1⟩ => ?_
  exact r1.here A1 (pk_of R1)
theorem pe_frz (h : PE X e (LE fr W Φ m)) : PE X e (LV fr W Φ (mFrz m)) := by
  refine PE.imp h fun σ H Q ⟨w, A, r⟩ => ⟨w, A, ?_⟩
  have r' : ResG fr W σ H w RelV' Q ((m Φ ⟨w.ρ, w.S⟩).bind fun r s' => match r with
    | .val d => .ok d s'
    | .own c => .ok c.d s'
    | .bor _ => .no) := r
  generalize m Φ ⟨w.ρ, w.S⟩ = o at r' ⊢
  cases o with
  | no => exact r'
  | ex x s => exact r'
  | ok a s =>
    intro b H1 w1 e1 e2 A1 N1 R1
    cases a with
    | val d => exact r' b H1 w1 e1 e2 A1 N1 R1
    | bor d => exact r'.elim
    | own c =>
      obtain ⟨a, rfl, h1, h2, h3, h4, h5⟩ := R1
      obtain ⟨o, z1, z2⟩ := h5
      have k1 : ∀ x u, w1.F x = some u → (w1.shut a o).F x = some u := fun x u h => by
        show upd w1.F a _ x = some u
        rw [upd_ne (ne_of_none h h2)]; exact h
      refine r' (.ref a) H1 (w1.shut a o) e1 e2 (A1.shut z2.nt z1 (none_back A.stp.there h1) h2 h3 h4) (N1.shut h1 h2) ?_
      exact Rep.of_o (show upd w1.F a o a = some o from upd_same) (z2.mono k1 fun _ _ h => h)
end
end DL
end

section
set_option Elab.async false
set_option linter.all false
set_option maxRecDepth 100000
set_option autoImplicit false
set_option maxHeartbeats 1000000
/-! DL0: what is promised of exceptions and of deeds that are tried. -/
namespace DL
open PySem PySem.Spec PyProof.Rows L2
def exNames : List Str := ["NoRule", "NoSenses", "NoState", "NoBounds", "NoPlace", "NoRows", "NoFirst", "Unlike", "TooMany"]
def ExtH (H H' : Hp) : Prop := ∀ b o, H b = some o → H' b = some o
theorem ExtH.refl (H : Hp) : ExtH H H := fun _ _ h => h
theorem ExtH.push {H H' : Hp} {p : Addr} {o : HO} (h : ExtH H H') (hp : H' p = none) : ExtH H (upd H' p o) := fun b u e => by
  have e' := h b u e
  rw [upd_ne (ne_of_none e' hp)]; exact e'
/-- the handled object's dict, as it is tracked -/
def DicOk (d : Option Addr) (H : Hp) : Prop := d = none ∨ ∃ (dd : Addr) (fs : List (Str × V)), d = some dd ∧ H dd = some (.xd fs)
theorem DicOk.ext {d : Option Addr} {H H' : Hp} (h : DicOk d H) (e : ExtH H H') : DicOk d H' := by
  rcases h with rfl | ⟨dd, fs, rfl, z⟩
  · exact .inl rfl
  · exact .inr ⟨dd, fs, rfl, e _ _ z⟩
/-- what is there stays -/
def There (H H1 : Hp) : Prop := ∀ b o, H b = some o → ∃ o', H1 b = some o'
/-- a class without an __init__ of its own -/
structure Exc0 (X : Cx) (mg : Str → Option Value) (x : Str) : Prop where
  ex : ∃ C : Addr, mg x = some (.ref C) ∧ PySem.W.excIn X.K C He.veBase "ValueError.__new__" = true ∧ PySem.W.keepIn X.K (.ref C) = true ∧ Raises X (.ref C)
/-- the promise of an __init__ that takes one whole number and keeps it -/
def spInit (C : Addr) (f : Str) : Sp := fun vs H Q _ => ∃ (a : Addr) (i : Int), vs = [.ref a, .int i] ∧ H a = some (exo a C none) ∧ ∀ dx, H dx = none → dx ≠ a → Q .non (upd (upd H dx (exd dx [(f, .int i)])) a (exo a C (some dx)))
structure Exc1 (X : Cx) (mg : Str → Option Value) (x : Str) : Prop where
  ex : ∃ (C fI : Addr) (fd : FuncData) (ps : List Str), mg x = some (.ref C) ∧ OexC X.K C ∧ PySem.W.findIn X.K (.ref C) "__init__" = some (some (.ref fI)) ∧ PySem.W.typeIn X.K (.ref fI) = some (.type "function") ∧ Binds X.K fd ps [] ∧
    FnOk X.prog X.w X.K X.mg X.base (L2N.CX X.prog X.w) 1 fI fd ps (spInit C "most")
/-- what is wished of an exception -/
def wTried (C : Str → Addr) (Q : VK) : XK := fun cls d H => ∃ x ∈ exNames, cls = .ref (C x) ∧ DicOk d H ∧
  (x = ("TooMany" : Str) → ∃ (i : Int) (dd : Addr), d = some dd ∧ H dd = some (.xd [("most", .int i)]) ∧ ∀ T H', ExtH H H' → H' T = none → Q (.ref T) (upd H' T (.tup [.str "TooMany", .int i]))) ∧
  (x ≠ ("TooMany" : Str) → ∀ T H', ExtH H H' → H' T = none → Q (.ref T) (upd H' T (.tup [.str x])))
def TTried (C : Str → Addr) : (XK → Hp → VK → Prop) → Hp → VK → Prop := fun tl H Q => ∀ T0, H T0 = none →
  tl (wTried C Q) (upd H T0 (.tup [.str "none"])) fun v H2 => ([V.str "told", v] : List V).length ≤ sizeLine ∧ ∀ T, H2 T = none → Q (.ref T) (upd H2 T (.tup [.str "told", v]))
/-- the def that calls what it got -/
def GivesN (X : Cx) (Ng : List Str) (x : Str) (sg : Scope) (g : Addr) (cdg : Value) (bg : List Stmt) (a : Str) (q : Str) (TT : (XK → Hp → VK → Prop) → Hp → VK → Prop) : Prop :=
  ∀ (f c' : Addr) (s : Shared) (H : Hp) (Q : VK) (tl : XK → Hp → VK → Prop), Room 1 (X.A.deeper (envOfC x sg s.heap.objs.size g cdg)) →
    (∀ (W : WX) (pn : List (Addr × Obj)) (xe : Value → Shared → Prop) (E : XK) (p1 p2 : Pos), L2N.Takes ((cxOf C8.CX0 X.prog X.w X.K X.mg X.base Ng x sg g cdg X.A X.stack s H C8.E0).tr pn xe) W →
      PE ((cxOf C8.CX0 X.prog X.w X.K X.mg X.base Ng x sg g cdg X.A X.stack s H C8.E0).tr pn xe) (.Call (.Name a p1) [] [] p2) (fun σZ HZ Q => σZ[0]? = some (some (.ref f)) ∧ HZ c' = some (LamX.CodeO c' q) ∧ (∀ cls d H', E cls d H' → W cls d σZ H') ∧ tl E HZ Q)) →
    H c' = some (LamX.CodeO c' q) → TT tl H Q →
    ∃ t, PSs (cxOf C8.CX0 X.prog X.w X.K X.mg X.base Ng x sg g cdg X.A X.stack s H C8.E0).nox bg t ∧ t { nx := fun _ H' => Q .non H', rt := Q } (L2.start Ng [.ref f]) H
/-- what is known of the def that tries deeds -/
structure TriK (P : Program) (w : World) (K : PySem.W.Frag) (mg : Str → Option Value) (base : Heap) (x : Str) : Prop where
  ex : ∃ (C : Str → Addr) (g : Addr) (a : Str) (pg : Arguments) (bg : List Stmt) (sg : Scope) (dV kV doc pm cdv ct oc : Value) (an od : Option Addr) (osl : Array (Option Value)) (Ng : List Str), mg x = some (.ref g) ∧ PySem.W.keepIn K (.ref g) = true ∧
    K.lookup g = some ⟨oc, od, .func (PySem.W.fnOf x x pg bg sg dV kV doc pm an cdv ct), osl⟩ ∧ PySem.W.codeIn K cdv x = true ∧ L2.Binds K (PySem.W.fnOf x x pg bg sg dV kV doc pm an cdv ct) [a] [] ∧ FnScope Ng [a] sg ∧ Ng[0]? = some a ∧ Vis sg a ∧
    (a == ("__debug__" : Str)) = false ∧ (a == ("__classdict__" : Str)) = false ∧ (∀ y ∈ exNames, mg y = some (.ref (C y))) ∧
    ∀ X : Cx, X.prog = P → X.w = w → X.K = K → X.mg = mg → X.base = base → ∀ q, GivesN X Ng x sg g cdv bg a q (TTried C)
/-- the context's own code object and its table -/
structure CodAt (X : Cx) (T : List (Addr × Str)) : Prop where
  ex : ∃ (c P : Addr), X.env.code = .ref c ∧ LamX.TabB X.base X.mg c P ∧ (P, X.env.qual ++ "<lambda>") ∈ T ∧ ∀ p ∈ T, p.1 = P → p.2 = X.env.qual ++ "<lambda>"
def hide : Option Slot → Option Slot
  | some (.own _) => none
  | o => o
theorem hide_val {o : Option Slot} {d : D} (h : hide o = some (.val d)) : o = some (.val d) := by
  cases o with
  | none => cases h
  | some s =>
    cases s with
    | val e => exact h
    | own c => cases h
theorem hide_own {o : Option Slot} {c : Cont} : hide o ≠ some (.own c) := fun h => by
  cases o with
  | none => cases h
  | some s =>
    cases s with
    | val e => cases h
    | own c => cases h
/-- what is tried: its value, or the word of the class that comes out, with its number -/
def mTried (m : M R) : M R := fun Φ s => match mFrz m Φ ⟨s.ρ.map hide, s.S⟩ with
  | .ok d s' => .ok (.val (.tup [.str "told", d])) ⟨s.ρ, s'.S⟩
  | .ex x s' => if exNames.contains x.cls = true then (if x.cls = ("TooMany" : Str) then (match x.most with
      | some i => .ok (.val (.tup [.str "TooMany", .int i])) ⟨s.ρ, s'.S⟩
      | none => .no) else .ok (.val (.tup [.str x.cls])) ⟨s.ρ, s'.S⟩) else .no
  | .no => .no
/-- what is captured is shared -/
def mSh : List Nat → M R → M R
  | [], m => m
  | i :: r, m => fun Φ s => match s.ρ[i]? with
    | some (some (.own c)) => mSh r m Φ { s with ρ := s.ρ.set i (some (.val c.d)) }
    | _ => mSh r m Φ s
end DL
end

section
set_option Elab.async false
set_option linter.all false
set_option maxRecDepth 100000
set_option autoImplicit false
set_option maxHeartbeats 1000000
/-! DL2: operations on values. -/
namespace DL
open PySem PySem.Spec PyProof.Rows L2

def lim : Nat := 1000000
theorem lim_le {n : Nat} (h : n ≤ lim) : n ≤ sizeLine := Nat.le_trans h (by decide)
theorem lim_lt {n : Nat} (h : n ≤ lim) : n < sizeLine := Nat.lt_of_le_of_lt h (by decide)
def ofO {α : Type} (o : Option α) : M α := fun _ s => match o with
  | some a => .ok a s
  | none => .no
def mOp2 (op : D → D → Option R) (a b : M R) : M R := fun Φ s => (mOpd a Φ s).bind fun x s1 => (mOpd b Φ s1).bind fun y s2 => ofO (op x y) Φ s2
def mOp1 (op : D → Option R) (a : M R) : M R := fun Φ s => (mOpd a Φ s).bind fun x s1 => ofO (op x) Φ s1

theorem OpR.or {X : Cx} {f : Value → Value → Sem Value} {r r' : R2} (h : OpR X f r) (h' : OpR X f r') : OpR X f (fun x y H Q => r x y H Q ∨ r' x y H Q) := fun pins s σ H x y v u Q I rx ry q =>
  q.elim (h pins s σ H x y v u Q I rx ry) (h' pins s σ H x y v u Q I rx ry)
/-- the answer at hand -/
theorem ans {fr : Fr} {W : WX} {Φ : PhiT} {σ : L2.St} {H : Hp} {w : Wl} {Q : V → Hp → Prop} {o : Option R} {d : D} {v : V} (h : ResG fr W σ H w (RelR σ) Q (ofO o Φ ⟨w.ρ, w.S⟩)) (A : At fr σ H w) (e : o = some (.val d)) (R : Rep w.F w.B v d) : Q v H := by
  subst e; exact ResG.here h A R
theorem ansNew {fr : Fr} {W : WX} {Φ : PhiT} {σ : L2.St} {H : Hp} {w : Wl} {Q : V → Hp → Prop} {o : Option R} {ds : List D} {xs : List V} {p : Addr} (h : ResG fr W σ H w (RelR σ) Q (ofO o Φ ⟨w.ρ, w.S⟩)) (A : At fr σ H w)
    (e : o = some (.own (.lst ds))) (R : Reps w.F w.B xs ds) (hp : H p = none) : Q (.ref p) (upd H p (.lst xs)) := by
  subst e
  exact h (.ref p) (upd H p (.lst xs)) w rfl rfl (A.push hp) (Nx.push hp) ⟨p, rfl, hp, A.newF hp, A.newB hp, A.newO hp, _, upd_same, .lst R⟩
theorem ansTup {fr : Fr} {W : WX} {Φ : PhiT} {σ : L2.St} {H : Hp} {w : Wl} {Q : V → Hp → Prop} {o : Option R} {ds : List D} {xs : List V} {p : Addr} (h : ResG fr W σ H w (RelR σ) Q (ofO o Φ ⟨w.ρ, w.S⟩)) (A : At fr σ H w)
    (e : o = some (.val (.tup ds))) (R : Reps w.F w.B xs ds) (hp : H p = none) : Q (.ref p) (upd H p (.tup xs)) := by
  subst e
  refine h (.ref p) (upd H p (.tup xs)) (w.shut p (.tup xs)) rfl rfl (A.lay nt_tup hp) (Nx.lay A hp) ?_
  exact .tup (show upd w.F p (.tup xs) p = _ from upd_same) (R.mono (Nx.lay (σ := σ) A hp).sub fun _ _ h => h)
def VS2 (X : Cx) (r : R2) (op : D → D → Option R) : Prop := ∀ (fr : Fr) (W : WX) (Φ : PhiT) (σ : L2.St) (H : Hp) (w : Wl) (Q : V → Hp → Prop) (v1 v2 : V) (d1 d2 : D), At fr σ H w → Pk H w.F w.B v1 d1 → Pk H w.F w.B v2 d2 →
  ResG fr W σ H w (RelR σ) Q (ofO (op d1 d2) Φ ⟨w.ρ, w.S⟩) → r v1 v2 H Q
def VS1 (X : Cx) (r : V → Hp → VK → Prop) (op : D → Option R) : Prop := ∀ (fr : Fr) (W : WX) (Φ : PhiT) (σ : L2.St) (H : Hp) (w : Wl) (Q : V → Hp → Prop) (v1 : V) (d1 : D), At fr σ H w → Pk H w.F w.B v1 d1 →
  ResG fr W σ H w (RelR σ) Q (ofO (op d1) Φ ⟨w.ρ, w.S⟩) → r v1 H Q
theorem Nx.pk {σ : L2.St} {H H1 : Hp} {w w1 : Wl} (n : Nx σ H w H1 w1) {v : V} {d : D} (r : Pk H w.F w.B v d) : Pk H1 w1.F w1.B v d := by
  cases r with
  | rep h => exact .rep (n.rep h)
  | lst h1 hb h2 =>
    refine .lst (n.keep _ _ h1 nt_lst hb) (fun z => ?_) (n.reps h2)
    obtain ⟨C, e, hC⟩ := n.bags
    rw [e] at z
    rcases List.mem_append.mp z with z | z
    · exact hb z
    · rw [hC _ z] at h1; cases h1
  | dK h1 hb h2 =>
    refine .dK (n.keep _ _ h1 nt_dK hb) (fun z => ?_) (h2.mono n.sub n.bmono)
    obtain ⟨C, e, hC⟩ := n.bags
    rw [e] at z
    rcases List.mem_append.mp z with z | z
    · exact hb z
    · rw [hC _ z] at h1; cases h1
section
variable {X : Cx} {fr : Fr} {W : WX} {Φ : PhiT} {a b : Expr} {ma mb : M R} {pos : Pos} {op : D → D → Option R} {r : R2}
/-- two looks, one after the other -/
theorem two_looks {σ : L2.St} {H : Hp} {Q : V → Hp → Prop} (vs : VS2 X r op) (h : LE fr W Φ (mOp2 op ma mb) σ H Q) : tOp r (LP fr W Φ (mOpd ma)) (LP fr W Φ (mOpd mb)) σ H Q := by
  obtain ⟨w, A, h⟩ := h
  refine ⟨w, A, (ResG.bind (Rel' := RelP) antiR h).imp ?_⟩
  rintro x H1 ⟨d1, w1, A1, N1, R1, h1⟩
  refine ⟨w1, A1, (ResG.bind (Rel' := RelP) antiR h1).imp ?_⟩
  rintro y H2 ⟨d2, w2, A2, N2, R2, h2⟩
  exact vs fr W Φ σ H2 w2 Q x y d1 d2 A2 (N2.pk R1) R2 h2
theorem pe_bin {o : Operator} (ho : OpR X (binaryOp o) r) (vs : VS2 X r op) (ha : PE X a (LE fr W Φ ma)) (hb : PE X b (LE fr W Φ mb)) : PE X (.BinOp a o b pos) (LE fr W Φ (mOp2 op ma mb)) :=
  PE.imp (pe_op ho (pe_opd ha) (pe_opd hb)) fun _ _ _ h => two_looks (X := X) vs h
theorem pe_cmpG {o : CmpOp} (ho : OpR X (compareOp o) r) (vs : VS2 X r op) (ha : PE X a (LE fr W Φ ma)) (hb : PE X b (LE fr W Φ mb)) (hm : behindInMarks o b = false) : PE X (.Compare a [o] [b] pos) (LE fr W Φ (mOp2 op ma mb)) :=
  PE.imp (pe_cmpR ho (pe_opd ha) (pe_opd hb) hm) fun _ _ _ h => two_looks (X := X) vs h
def mBool (m : M R) : M Bool := fun Φ s => (m Φ s).bind fun r s' => match r with
  | .val (.bl b) => .ok b s'
  | _ => .no
theorem to_bool {m : M R} {t : TE} (hi : ∀ σ H Q, LE fr W Φ m σ H Q → t σ H Q) : ∀ σ H (Q : Bool → Hp → Prop), LB fr W Φ (mBool m) σ H Q → t σ H fun x H' => ∃ k, x = .bl k ∧ Q k H' := by
  intro σ H Q ⟨w, A, h⟩
  refine hi σ H _ ⟨w, A, (ResG.bind (Rel' := RelR σ) antiB h).imp ?_⟩
  rintro x H1 ⟨r, w1, A1, N1, R1, h1⟩
  cases r with
  | own c => exact h1.elim
  | bor d => exact h1.elim
  | val d =>
    cases d with
    | bl b =>
      cases R1
      exact ⟨b, rfl, h1.here A1 rfl⟩
    | _ => exact h1.elim
theorem pt_cmpG {o : CmpOp} (ho : OpR X (compareOp o) r) (vs : VS2 X r op) (ha : PE X a (LE fr W Φ ma)) (hb : PE X b (LE fr W Φ mb)) (hm : behindInMarks o b = false) : PT X (.Compare a [o] [b] pos) (LB fr W Φ (mBool (mOp2 op ma mb))) :=
  PT.imp (pt_cmpR ho (pe_opd ha) (pe_opd hb) hm) (to_bool (t := tOp r (LP fr W Φ (mOpd ma)) (LP fr W Φ (mOpd mb))) fun _ _ _ h => two_looks (X := X) vs h)
end
/-! ### arithmetic -/
def opAdd : D → D → Option R
  | .int i, .int j => some (.val (.int (i + j)))
  | .lst a, .lst b => if a.length + b.length ≤ lim then some (.own (.lst (a ++ b))) else none
  | .tup a, .tup b => if a.length + b.length ≤ lim then some (.val (.tup (a ++ b))) else none
  | _, _ => none
def opSub : D → D → Option R
  | .int i, .int j => some (.val (.int (i - j)))
  | _, _ => none
def opDiv : D → D → Option R
  | .int i, .int j => if j ≠ 0 ∧ j.natAbs < 1073741824 then some (.val (.int (i.fdiv j))) else none
  | _, _ => none
def opMod : D → D → Option R
  | .int i, .int j => if j ≠ 0 then some (.val (.int (i.fmod j))) else none
  | _, _ => none
def opPow : D → D → Option R
  | .int i, .int j => if 0 ≤ j ∧ j ≤ 1000000 ∧ i.natAbs < 2 ^ 64 then some (.val (.int (i ^ j.toNat))) else none
  | _, _ => none
section
variable {X : Cx}
theorem vs_add : VS2 X (fun x y H Q => (rI0 fun i j => .int (i + j)) x y H Q ∨ (rCat x y H Q ∨ rCatA X.K x y H Q)) opAdd := by
  intro fr W Φ σ H w Q v1 v2 d1 d2 A R1 R2 h
  cases d1 <;> cases d2 <;> first | exact h.elim | skip
  · cases R1 with | rep R1 => cases R2 with | rep R2 => (cases R1; cases R2; exact .inl ⟨_, _, rfl, rfl, ans h A rfl (.int _)⟩)
  · rename_i l1 l2
    by_cases hl : l1.length + l2.length ≤ lim
    · have e : opAdd (.tup l1) (.tup l2) = some (.val (.tup (l1 ++ l2))) := if_pos hl
      cases R1 with
      | rep R1 =>
        cases R2 with
        | rep R2 =>
          cases R1 with
          | @tup a xs _ ha ra =>
            cases R2 with
            | @tup b ys _ hb rb =>
              refine .inr (.inr ⟨a, b, xs, ys, rfl, rfl, .inl (.inl (A.good.sub _ _ ha)), .inl (.inl (A.good.sub _ _ hb)), by rw [ra.length, rb.length]; exact lim_le hl, fun e0 => ?_, fun _ e0 => ?_, fun _ _ p hp => ?_⟩)
              · subst e0
                cases ra
                exact ans h A e (by simpa using Rep.tup hb rb)
              · subst e0
                cases rb
                exact ans h A e (by simpa using Rep.tup ha ra)
              · exact ansTup h A e (ra.append rb) hp
    · have e : opAdd (.tup l1) (.tup l2) = none := if_neg hl
      rw [e] at h; exact h.elim
  · rename_i l1 l2
    by_cases hl : l1.length + l2.length ≤ lim
    · have e : opAdd (.lst l1) (.lst l2) = some (.own (.lst (l1 ++ l2))) := if_pos hl
      have k1 : ∃ a xs, v1 = .ref a ∧ H a = some (.lst xs) ∧ Reps w.F w.B xs l1 := by
        cases R1 with
        | rep R1 => cases R1 with | lst ha ra => exact ⟨_, _, rfl, A.good.sub _ _ ha, ra⟩
        | lst ha _ ra => exact ⟨_, _, rfl, ha, ra⟩
      have k2 : ∃ a xs, v2 = .ref a ∧ H a = some (.lst xs) ∧ Reps w.F w.B xs l2 := by
        cases R2 with
        | rep R1 => cases R1 with | lst ha ra => exact ⟨_, _, rfl, A.good.sub _ _ ha, ra⟩
        | lst ha _ ra => exact ⟨_, _, rfl, ha, ra⟩
      obtain ⟨a, xs, rfl, ha, ra⟩ := k1
      obtain ⟨b, ys, rfl, hb, rb⟩ := k2
      exact .inr (.inl ⟨a, b, xs, ys, rfl, rfl, ha, hb, by rw [ra.length, rb.length]; exact lim_le hl, fun p hp => ansNew h A e (ra.append rb) hp⟩)
    · have e : opAdd (.lst l1) (.lst l2) = none := if_neg hl
      rw [e] at h; exact h.elim
theorem op_addG : OpR X (binaryOp .Add) (fun x y H Q => (rI0 fun i j => .int (i + j)) x y H Q ∨ (rCat x y H Q ∨ rCatA X.K x y H Q)) := OpR.or op_add (OpR.or op_cat op_catA)
/-- two ints -/
theorem pk_int {H F : Hp} {B : List Addr} {v : V} {i : Int} (R : Pk H F B v (.int i)) : v = .int i := by
  cases R with | rep R => cases R; rfl
theorem vs_sub : VS2 X (rI0 fun i j => .int (i - j)) opSub := by
  intro fr W Φ σ H w Q v1 v2 d1 d2 A R1 R2 h
  cases d1 <;> cases d2 <;> first | exact h.elim | skip
  exact ⟨_, _, pk_int R1, pk_int R2, ans h A rfl (.int _)⟩
theorem vs_div : VS2 X (rI CDivN fun i j => .int (i.fdiv j)) opDiv := by
  intro fr W Φ σ H w Q v1 v2 d1 d2 A R1 R2 h
  cases d1 <;> cases d2 <;> first | exact h.elim | skip
  rename_i i j
  by_cases c : j ≠ 0 ∧ j.natAbs < 1073741824
  · exact ⟨_, _, pk_int R1, pk_int R2, c, ans h A (if_pos c) (.int _)⟩
  · have e : opDiv (.int i) (.int j) = none := if_neg c
    rw [e] at h; exact h.elim
theorem vs_mod : VS2 X (rI (fun _ j => j ≠ 0) fun i j => .int (i.fmod j)) opMod := by
  intro fr W Φ σ H w Q v1 v2 d1 d2 A R1 R2 h
  cases d1 <;> cases d2 <;> first | exact h.elim | skip
  rename_i i j
  by_cases c : j ≠ 0
  · exact ⟨_, _, pk_int R1, pk_int R2, c, ans h A (if_pos c) (.int _)⟩
  · have e : opMod (.int i) (.int j) = none := if_neg c
    rw [e] at h; exact h.elim
theorem vs_pow : VS2 X (rI CPow fun i j => .int (i ^ j.toNat)) opPow := by
  intro fr W Φ σ H w Q v1 v2 d1 d2 A R1 R2 h
  cases d1 <;> cases d2 <;> first | exact h.elim | skip
  rename_i i j
  by_cases c : 0 ≤ j ∧ j ≤ 1000000 ∧ i.natAbs < 2 ^ 64
  · exact ⟨_, _, pk_int R1, pk_int R2, c, ans h A (if_pos c) (.int _)⟩
  · have e : opPow (.int i) (.int j) = none := if_neg c
    rw [e] at h; exact h.elim
end
end DL
end

section
set_option Elab.async false
set_option linter.all false
set_option maxRecDepth 100000
set_option autoImplicit false
set_option maxHeartbeats 4000000
/-! DLM: a tuple times one, times nought. -/
namespace DL
open PySem PySem.Spec PyProof.Rows L2
theorem tuple_mul1 (l : Addr) (items : Array Value) (n : Nat) (dd : Option Addr) (sl : Array (Option Value)) (x : Int) (u : Tok) (c0 : (decide (x < -(2 ^ 63)) || decide (x ≥ 2 ^ 63)) = false) (c1 : (items.isEmpty || x == 1) = true) :
    Meets (Builtin.«tuple.__mul__» ⟨[.ref l, .int x u], []⟩) (fun _ R s => s.heap.get? l = some { cls := .type "tuple", dict := dd, data := .seq items n, slots := sl } ∧ R (.ok (.ret (Value.ref l))) s) :=
  .of_wp fun prog w A R s h => by
    obtain ⟨hp, g, d, tk, os⟩ := s
    obtain ⟨hl, h⟩ := h
    have f1 := AutoSeq1.idx_int
    wp_walk using wpAny_loadPart' hl
    repeat (first
      | (refine wpAny_ite_false (decide_eq_false (by rw [c0]; exact Bool.false_ne_true)) ?_; wp_walk using wpAny_loadPart' hl)
      | (refine wpAny_ite_true (decide_eq_true (by rw [c1])) ?_; wp_walk using wpAny_loadPart' hl))
    exact ⟨_, rfl, h⟩
theorem tuple_mul0 (l : Addr) (items : Array Value) (n : Nat) (dd : Option Addr) (sl : Array (Option Value)) (x : Int) (u : Tok) (c0 : (decide (x < -(2 ^ 63)) || decide (x ≥ 2 ^ 63)) = false) (c1 : (items.isEmpty || x == 1) = false) (c2 : (decide (x ≤ 0) || items.isEmpty) = true) :
    Meets (Builtin.«tuple.__mul__» ⟨[.ref l, .int x u], []⟩) (fun _ R s => s.heap.get? l = some { cls := .type "tuple", dict := dd, data := .seq items n, slots := sl } ∧
      R (.ok (.ret (Value.ref s.heap.objs.size))) { s with heap := s.heap.push { cls := Value.type "tuple", data := Data.seq #[] }, toks := s.toks }) :=
  .of_wp fun prog w A R s h => by
    obtain ⟨hp, g, d, tk, os⟩ := s
    obtain ⟨hl, h⟩ := h
    have f1 := AutoSeq1.idx_int
    wp_walk using wpAny_loadPart' hl
    repeat (first
      | (refine wpAny_ite_false (decide_eq_false (by rw [c0]; exact Bool.false_ne_true)) ?_; wp_walk using wpAny_loadPart' hl)
      | (refine wpAny_ite_false (decide_eq_false (by rw [c1]; exact Bool.false_ne_true)) ?_; wp_walk using wpAny_loadPart' hl)
      | (refine wpAny_ite_true (decide_eq_true (by rw [c2])) ?_; wp_walk using wpAny_loadPart' hl))
    exact ⟨_, rfl, h⟩
def rRep1 (K : PySem.W.Frag) : R2 := fun x y H Q => ∃ l k xs, x = .ref l ∧ y = .int k ∧ SqT K H l xs ∧ (xs = [] ∨ k = 1) ∧ -1000 ≤ k ∧ k ≤ 1000 ∧ Q (.ref l) H
def rRep0 (K : PySem.W.Frag) : R2 := fun x y H Q => ∃ l k xs, x = .ref l ∧ y = .int k ∧ SqT K H l xs ∧ xs ≠ [] ∧ -1000 ≤ k ∧ k ≤ 0 ∧ ∀ p, H p = none → Q (.ref p) (upd H p (.tup []))
section
variable {X : Cx}
theorem op_rep1 : OpR X (binaryOp .Mult) (rRep1 X.K) := by
  intro pins s σ H x y v u Q I rx ry h
  obtain ⟨l, k, xs, rfl, rfl, hT, hne, h1, h2, q⟩ := h
  cases rx
  obtain ⟨t, rfl⟩ := ry
  obtain ⟨its, r, ⟨⟨cls, dd, data, sl⟩, ho, hc, n, hd⟩, hs⟩ := I.tuple hT
  simp only at hc hd
  subst hc hd
  have hle : its.length = xs.length := r.length.symm
  have c0 : (decide (k < -(2 ^ 63)) || decide (k ≥ 2 ^ 63)) = false := by
    rw [decide_eq_false (by omega), decide_eq_false (by omega)] <;> rfl
  have c1 : (its.toArray.isEmpty || k == 1) = true := by
    rcases hne with e | e
    · rw [e] at hle
      rw [List.eq_nil_of_length_eq_zero hle]; rfl
    · rw [e]; simp
  exact wpAny_binaryOp_repeat_ref (T := "tuple") (U := "int") (by decide) ⟨_, ho, rfl⟩ (fun s' => typeIs_int s' k t) noFill_tuple_mul F.fills_int_mul F.slot_int_rmul repeat_tuple F.slot_int_index.lookup
    (call_meets F.slot_int_rmul (typeIs_int s k t) F.entry_int_rmul (F.args_int_rmul_2 _ _) (int_rmul_tuple k t l its.toArray n dd sl)
      ⟨ho, rfl, ⟨_, ho, rfl⟩, call_meets F.slot_tuple_mul ⟨_, ho, rfl⟩ F.entry_tuple_mul (F.args_tuple_mul_2 _ _) (tuple_mul1 l its.toArray n dd sl k t c0 c1) ⟨ho, .ref l, H, I, rfl, q⟩⟩)
theorem op_rep0 : OpR X (binaryOp .Mult) (rRep0 X.K) := by
  intro pins s σ H x y v u Q I rx ry h
  obtain ⟨l, k, xs, rfl, rfl, hT, hne, h1, h2, q⟩ := h
  cases rx
  obtain ⟨t, rfl⟩ := ry
  obtain ⟨its, r, ⟨⟨cls, dd, data, sl⟩, ho, hc, n, hd⟩, hs⟩ := I.tuple hT
  simp only at hc hd
  subst hc hd
  have hle : its.length = xs.length := r.length.symm
  have hn : its ≠ [] := fun e => hne (by
    rw [e] at hle
    exact List.eq_nil_of_length_eq_zero hle.symm)
  have hi : its.toArray.isEmpty = false := by
    cases its with
    | nil => exact absurd rfl hn
    | cons a b => rfl
  have c0 : (decide (k < -(2 ^ 63)) || decide (k ≥ 2 ^ 63)) = false := by
    rw [decide_eq_false (by omega), decide_eq_false (by omega)] <;> rfl
  have c1 : (its.toArray.isEmpty || k == 1) = false := by
    rw [hi, Bool.false_or]
    exact beq_eq_false_iff_ne.mpr (by omega)
  have c2 : (decide (k ≤ 0) || its.toArray.isEmpty) = true := by
    rw [decide_eq_true h2]; rfl
  refine wpAny_binaryOp_repeat_ref (T := "tuple") (U := "int") (by decide) ⟨_, ho, rfl⟩ (fun s' => typeIs_int s' k t) noFill_tuple_mul F.fills_int_mul F.slot_int_rmul repeat_tuple F.slot_int_index.lookup
    (call_meets F.slot_int_rmul (typeIs_int s k t) F.entry_int_rmul (F.args_int_rmul_2 _ _) (int_rmul_tuple k t l its.toArray n dd sl)
      ⟨ho, rfl, ⟨_, ho, rfl⟩, call_meets F.slot_tuple_mul ⟨_, ho, rfl⟩ F.entry_tuple_mul (F.args_tuple_mul_2 _ _) (tuple_mul0 l its.toArray n dd sl k t c0 c1 c2) ⟨ho, ?_⟩⟩)
  refine ⟨.ref s.heap.objs.size, _, I.laid (t' := s.toks) (o := .tup []) (fun b ob q => Heap.get?_push_of_some _ q) (Nat.le_refl _) ?_, rfl, q _ (I.hok.fresh (Nat.le_refl _))⟩
  exact ⟨by decide, [], .nil, IsTup.new _ _⟩
end
end DL
end

section
set_option Elab.async false
set_option linter.all false
set_option maxRecDepth 100000
set_option autoImplicit false
set_option maxHeartbeats 1000000
/-! DL3: more operations: times, comparisons, membership, subscripts, slices. -/
namespace DL
open PySem PySem.Spec PyProof.Rows L2

section
variable {H F : Hp} {B : List Addr} {v : V}
theorem Pk.dp (K : PySem.W.Frag) (hs : ∀ a o, F a = some o → H a = some o) {d : D} (R : Pk H F B v d) (p : plain d = true) : Dp K H v (toPy d) := by
  cases R with
  | rep R => exact R.dp K hs p
  | lst h _ r => exact .lst (.inl (.inl h)) (r.dp K hs p)
  | dK _ _ _ => cases p
theorem Pk.lay {d : D} (R : Pk H F B v d) (p : plain d = true) : (toPy d).canLay0 = true := by
  cases R with
  | rep R => exact R.lay p
  | lst h _ r => exact r.lay p
  | dK _ _ _ => cases p
theorem pk_tup {ds : List D} (hs : ∀ a o, F a = some o → H a = some o) (R : Pk H F B v (.tup ds)) : ∃ a xs, v = .ref a ∧ H a = some (.tup xs) ∧ F a = some (.tup xs) ∧ Reps F B xs ds := by
  cases R with | rep R => cases R with | tup h r => exact ⟨_, _, rfl, hs _ _ h, h, r⟩
theorem pk_lst {ds : List D} (hs : ∀ a o, F a = some o → H a = some o) (R : Pk H F B v (.lst ds)) : ∃ a xs, v = .ref a ∧ H a = some (.lst xs) ∧ Reps F B xs ds := by
  cases R with
  | rep R => cases R with | lst h r => exact ⟨_, _, rfl, hs _ _ h, r⟩
  | lst h _ r => exact ⟨_, _, rfl, h, r⟩
end
def dep (d : D) : Nat := (toPy d).depth

/-! ### times -/
def opMul : D → D → Option R
  | .int i, .int j => if (-(2 ^ 64) < i ∧ i < 2 ^ 64) ∨ (-(2 ^ 64) < j ∧ j < 2 ^ 64) then some (.val (.int (i * j))) else none
  | .lst a, .int k => if a.length ≤ 1000 ∧ k ≤ 1000 ∧ -1000 ≤ k then some (.own (.lst (List.replicate k.toNat a).flatten)) else none
  | .tup a, .int k => if a.length ≤ 1000 ∧ k ≤ 1000 ∧ -1000 ≤ k then some (.val (.tup (List.replicate k.toNat a).flatten)) else none
  | _, _ => none
section
variable {X : Cx}
theorem op_mulG : OpR X (binaryOp .Mult) (fun x y H Q => (rI CMul fun i j => .int (i * j)) x y H Q ∨ (rRep x y H Q ∨ (rRepT X.K x y H Q ∨ (rRep1 X.K x y H Q ∨ rRep0 X.K x y H Q)))) := OpR.or op_mul (OpR.or op_rep (OpR.or op_repT (OpR.or op_rep1 op_rep0)))
theorem vs_mul : VS2 X (fun x y H Q => (rI CMul fun i j => .int (i * j)) x y H Q ∨ (rRep x y H Q ∨ (rRepT X.K x y H Q ∨ (rRep1 X.K x y H Q ∨ rRep0 X.K x y H Q)))) opMul := by
  intro fr W Φ σ H w Q v1 v2 d1 d2 A R1 R2 h
  cases d1 <;> cases d2 <;> first | exact h.elim | skip
  · rename_i i j
    by_cases c : (-(2 ^ 64) < i ∧ i < 2 ^ 64) ∨ (-(2 ^ 64) < j ∧ j < 2 ^ 64)
    · exact .inl ⟨_, _, pk_int R1, pk_int R2, c, ans h A (if_pos c) (.int _)⟩
    · have e : opMul (.int i) (.int j) = none := if_neg c
      rw [e] at h; exact h.elim
  · rename_i l k
    by_cases c : l.length ≤ 1000 ∧ k ≤ 1000 ∧ -1000 ≤ k
    · obtain ⟨a, xs, rfl, ha, ra0, ra⟩ := pk_tup A.good.sub R1
      obtain ⟨c1, c2, c3⟩ := id c
      by_cases e1 : xs = [] ∨ k = 1
      · refine .inr (.inr (.inr (.inl ⟨a, k, xs, rfl, pk_int R2, .inl (.inl ha), e1, c3, c2, ?_⟩)))
        have el : (List.replicate k.toNat l).flatten = l := by
          rcases e1 with z | z
          · subst z
            cases ra
            simp
          · subst z
            simp
        refine ans h A ((if_pos c).trans (by rw [el])) ?_
        cases R1 with
        | rep R => exact R
      · have n1 : xs ≠ [] := fun z => e1 (.inl z)
        have n2 : k ≠ 1 := fun z => e1 (.inr z)
        by_cases e2 : k ≤ 0
        · refine .inr (.inr (.inr (.inr ⟨a, k, xs, rfl, pk_int R2, .inl (.inl ha), n1, c3, e2, fun p hp => ansTup h A ((if_pos c).trans ?_) .nil hp⟩)))
          have : k.toNat = 0 := by omega
          rw [this]; rfl
        · exact .inr (.inr (.inl ⟨a, k, xs, rfl, pk_int R2, .inl (.inl ha), n1, by omega, c2, by rw [ra.length]; exact c1, fun p hp => ansTup h A (if_pos c) (ra.rep _) hp⟩))
    · have e : opMul (.tup l) (.int k) = none := if_neg c
      rw [e] at h; exact h.elim
  · rename_i l k
    by_cases c : l.length ≤ 1000 ∧ k ≤ 1000 ∧ -1000 ≤ k
    · obtain ⟨a, xs, rfl, ha, ra⟩ := pk_lst A.good.sub R1
      obtain ⟨c1, c2, c3⟩ := id c
      refine .inr (.inl ⟨a, k, xs, rfl, pk_int R2, ha, by omega, by omega, ?_, fun p hp => ansNew h A (if_pos c) (ra.rep _) hp⟩)
      rw [ra.length]
      have a1 : l.length * k.toNat ≤ 1000 * 1000 := Nat.mul_le_mul c1 (by omega)
      exact Nat.le_trans a1 (by decide)
    · have e : opMul (.lst l) (.int k) = none := if_neg c
      rw [e] at h; exact h.elim
def opNeg : D → Option R
  | .int i => some (.val (.int (-i)))
  | _ => none
theorem vs_neg : VS1 X (rU fun i => .int (-i)) opNeg := by
  intro fr W Φ σ H w Q v1 d1 A R1 h
  cases d1 <;> first | exact h.elim | skip
  exact ⟨_, pk_int R1, ans h A rfl (.int _)⟩

/-! ### comparisons of ints -/
def opI (f : Int → Int → Bool) : D → D → Option R
  | .int i, .int j => some (.val (.bl (f i j)))
  | _, _ => none
theorem vs_I (f : Int → Int → Bool) : VS2 X (rI0 fun i j => .bl (f i j)) (opI f) := by
  intro fr W Φ σ H w Q v1 v2 d1 d2 A R1 R2 h
  cases d1 <;> cases d2 <;> first | exact h.elim | skip
  exact ⟨_, _, pk_int R1, pk_int R2, ans h A rfl (.bl _)⟩
abbrev opLt := opI fun i j => decide (i < j)
abbrev opLe := opI fun i j => decide (i ≤ j)
abbrev opGt := opI fun i j => decide (j < i)
abbrev opGe := opI fun i j => decide (j ≤ i)

/-! ### equality at any depth -/
def eqOk (a b : D) : Bool := plain a && (plain b && decide (min (dep a) (dep b) ≤ 60))
def opEq (a b : D) : Option R := if eqOk a b = true then some (.val (.bl (PyData.eqv (toPy a) (toPy b)))) else none
def opNe (a b : D) : Option R := if eqOk a b = true then some (.val (.bl (!PyData.eqv (toPy a) (toPy b)))) else none
theorem eqOk_iff {a b : D} : eqOk a b = true ↔ plain a = true ∧ plain b = true ∧ min (dep a) (dep b) ≤ 60 := by
  unfold eqOk; rw [Bool.and_eq_true, Bool.and_eq_true, decide_eq_true_eq]
def rEqP (K : PySem.W.Frag) : R2 := fun x y H Q => ∃ d e, Dp K H x d ∧ Dp K H y e ∧ d.canLay0 = true ∧ e.canLay0 = true ∧ min d.depth e.depth ≤ 60 ∧ Q (.bl (PyData.eqv d e)) H
def rNeP (K : PySem.W.Frag) : R2 := fun x y H Q => ∃ d e, Dp K H x d ∧ Dp K H y e ∧ d.canLay0 = true ∧ e.canLay0 = true ∧ min d.depth e.depth ≤ 60 ∧ Q (.bl (!PyData.eqv d e)) H
theorem op_eqP (hu : X.A.units + 64 < cLine) : OpR X (compareOp .Eq) (rEqP X.K) := by
  intro pins s σ H x y v u Q I rx ry h
  obtain ⟨d, e, hd, he, sd, se, m, q⟩ := h
  obtain ⟨as, r1⟩ := Dp.reads I d x v hd rx
  obtain ⟨bs, r2⟩ := Dp.reads I e y u he ry
  exact SeqAt.compareEq_reads r1 r2 sd se (by omega) ⟨.bl _, H, I, rfl, q⟩
theorem op_neP (hu : X.A.units + 64 < cLine) : OpR X (compareOp .NotEq) (rNeP X.K) := by
  intro pins s σ H x y v u Q I rx ry h
  obtain ⟨d, e, hd, he, sd, se, m, q⟩ := h
  obtain ⟨as, r1⟩ := Dp.reads I d x v hd rx
  obtain ⟨bs, r2⟩ := Dp.reads I e y u he ry
  exact SeqAt.compareNe_reads r1 r2 sd se (by omega) ⟨.bl _, H, I, rfl, q⟩
theorem vs_eq : VS2 X (rEqP X.K) opEq := by
  intro fr W Φ σ H w Q v1 v2 d1 d2 A R1 R2 h
  by_cases c : eqOk d1 d2 = true
  · obtain ⟨p1, p2, p3⟩ := eqOk_iff.mp c
    exact ⟨toPy d1, toPy d2, R1.dp X.K A.good.sub p1, R2.dp X.K A.good.sub p2, R1.lay p1, R2.lay p2, p3, ans h A (if_pos c) (.bl _)⟩
  · have e : opEq d1 d2 = none := if_neg c
    rw [e] at h; exact h.elim
theorem vs_ne : VS2 X (rNeP X.K) opNe := by
  intro fr W Φ σ H w Q v1 v2 d1 d2 A R1 R2 h
  by_cases c : eqOk d1 d2 = true
  · obtain ⟨p1, p2, p3⟩ := eqOk_iff.mp c
    exact ⟨toPy d1, toPy d2, R1.dp X.K A.good.sub p1, R2.dp X.K A.good.sub p2, R1.lay p1, R2.lay p2, p3, ans h A (if_pos c) (.bl _)⟩
  · have e : opNe d1 d2 = none := if_neg c
    rw [e] at h; exact h.elim
/-! ### is -/
def isNon : D → Bool
  | .non => true
  | _ => false
theorem Pk.isNon {H F : Hp} {B : List Addr} {v : V} {d : D} (R : Pk H F B v d) : decide (v = .non) = DL.isNon d := by
  cases R with
  | rep R => cases R <;> first | rfl | exact decide_eq_false (fun q => nomatch q)
  | lst h _ r => exact decide_eq_false (fun q => nomatch q)
  | dK h _ r => exact decide_eq_false (fun q => nomatch q)
def opIs : D → D → Option R
  | d, .non => some (.val (.bl (isNon d)))
  | .bl a, .bl b => some (.val (.bl (decide (a = b))))
  | .non, .bl _ => none
  | _, _ => none
def opIsNot : D → D → Option R
  | d, .non => some (.val (.bl (!isNon d)))
  | .bl a, .bl b => some (.val (.bl (!decide (a = b))))
  | _, _ => none
abbrev rIsG : R2 := fun x y H Q => (y = .non ∧ Q (.bl (decide (x = .non))) H) ∨ rIsB x y H Q
abbrev rNotG : R2 := fun x y H Q => (y = .non ∧ Q (.bl (!decide (x = .non))) H) ∨ rNotB x y H Q
theorem op_isG : OpR X (compareOp .Is) rIsG := OpR.or op_isN op_isBl
theorem pk_bl {H F : Hp} {B : List Addr} {v : V} {b : Bool} (R : Pk H F B v (.bl b)) : v = .bl b := by
  cases R with | rep R => cases R; rfl
theorem pk_non {H F : Hp} {B : List Addr} {v : V} (R : Pk H F B v .non) : v = .non := by
  cases R with | rep R => cases R; rfl
theorem vs_is : VS2 X rIsG opIs := by
  intro fr W Φ σ H w Q v1 v2 d1 d2 A R1 R2 h
  cases d2 with
  | non =>
    refine .inl ⟨pk_non R2, ?_⟩
    rw [R1.isNon]
    exact ans h A (by cases d1 <;> rfl) (.bl _)
  | bl b =>
    cases d1 <;> first | exact h.elim | skip
    exact .inr ⟨_, _, pk_bl R1, pk_bl R2, ans h A rfl (.bl _)⟩
  | _ => exact (by cases d1 <;> exact h.elim)
theorem op_isNotG : OpR X (compareOp .IsNot) rNotG := OpR.or op_notN op_notBl
theorem vs_isNot : VS2 X rNotG opIsNot := by
  intro fr W Φ σ H w Q v1 v2 d1 d2 A R1 R2 h
  cases d2 with
  | non =>
    refine .inl ⟨pk_non R2, ?_⟩
    rw [R1.isNon]
    exact ans h A (by cases d1 <;> rfl) (.bl _)
  | bl b =>
    cases d1 <;> first | exact h.elim | skip
    exact .inr ⟨_, _, pk_bl R1, pk_bl R2, ans h A rfl (.bl _)⟩
  | _ => exact (by cases d1 <;> exact h.elim)

/-! ### in -/
def seqOf : D → Option (List D)
  | .lst l => some l
  | .tup l => some l
  | _ => none
def inOk (a : D) (l : List D) : Bool := plain a && (plains l && decide (min (PyData.depthAll (toPys l)) (dep a) ≤ 60))
def inD (a : D) (l : List D) : Bool := (toPys l).any fun z => PyData.eqv z (toPy a)
def opIn (a b : D) : Option R := match seqOf b with
  | some l => if inOk a l = true then some (.val (.bl (inD a l))) else none
  | none => none
def opNotIn (a b : D) : Option R := match seqOf b with
  | some l => if inOk a l = true then some (.val (.bl (!inD a l))) else none
  | none => none
def rInP (K : PySem.W.Frag) (neg : Bool) : R2 := fun x y H Q => ∃ d ds, Dp K H x d ∧ (Dp K H y (.list ds) ∨ Dp K H y (.tuple ds)) ∧ d.canLay0 = true ∧ PyData.canLayAll0 ds = true ∧ min (PyData.depthAll ds) d.depth ≤ 60 ∧
  Q (.bl (if neg = true then !(ds.any fun z => PyData.eqv z d) else ds.any fun z => PyData.eqv z d)) H
theorem op_inP (hu : X.A.units + 64 < cLine) : OpR X (compareOp .In) (rInP X.K false) := by
  intro pins s σ H x y v u Q I rx ry h
  obtain ⟨d, ds, hd, he, sd, se, m, q⟩ := h
  obtain ⟨as, r1⟩ := Dp.reads I d x v hd rx
  rcases he with he | he
  · obtain ⟨bs, r2⟩ := Dp.reads I (.list ds) y u he ry
    exact SeqAt.in_list_reads r2 r1 se sd (by omega) ⟨.bl _, H, I, rfl, q⟩
  · obtain ⟨bs, r2⟩ := Dp.reads I (.tuple ds) y u he ry
    exact SeqAt.in_tuple_reads r2 r1 se sd (by omega) ⟨.bl _, H, I, rfl, q⟩
theorem op_notInP (hu : X.A.units + 64 < cLine) : OpR X (compareOp .NotIn) (rInP X.K true) := by
  intro pins s σ H x y v u Q I rx ry h
  obtain ⟨d, ds, hd, he, sd, se, m, q⟩ := h
  obtain ⟨as, r1⟩ := Dp.reads I d x v hd rx
  rcases he with he | he
  · obtain ⟨bs, r2⟩ := Dp.reads I (.list ds) y u he ry
    exact SeqAt.notIn_list_reads r2 r1 se sd (by omega) ⟨.bl _, H, I, rfl, q⟩
  · obtain ⟨bs, r2⟩ := Dp.reads I (.tuple ds) y u he ry
    exact SeqAt.notIn_tuple_reads r2 r1 se sd (by omega) ⟨.bl _, H, I, rfl, q⟩
theorem vs_inG {neg : Bool} {op : D → D → Option R} (ho : ∀ a b, op a b = match seqOf b with
  | some l => if inOk a l = true then some (.val (.bl (if neg = true then !inD a l else inD a l))) else none
  | none => none) : VS2 X (rInP X.K neg) op := by
  intro fr W Φ σ H w Q v1 v2 d1 d2 A R1 R2 h
  have hs : ∃ l, (d2 = .lst l ∨ d2 = .tup l) := by
    cases d2 <;> first | exact ⟨_, .inl rfl⟩ | exact ⟨_, .inr rfl⟩ | (rw [ho] at h; exact h.elim)
  obtain ⟨l, hl⟩ := hs
  have es : seqOf d2 = some l := by rcases hl with rfl | rfl <;> rfl
  by_cases c : inOk d1 l = true
  · have c' := c
    unfold inOk at c'
    rw [Bool.and_eq_true, Bool.and_eq_true, decide_eq_true_eq] at c'
    obtain ⟨p1, p2, p3⟩ := c'
    have e : op d1 d2 = some (.val (.bl (if neg = true then !inD d1 l else inD d1 l))) := by
      rw [ho, es]; exact if_pos c
    have rl : Dp X.K H v2 (.list (toPys l)) ∨ Dp X.K H v2 (.tuple (toPys l)) := by
      rcases hl with rfl | rfl
      · exact .inl (R2.dp X.K A.good.sub p2)
      · exact .inr (R2.dp X.K A.good.sub p2)
    have ll : PyData.canLayAll0 (toPys l) = true := by
      rcases hl with rfl | rfl
      · exact R2.lay p2
      · exact R2.lay p2
    exact ⟨toPy d1, toPys l, R1.dp X.K A.good.sub p1, rl, R1.lay p1, ll, p3, ans h A e (.bl _)⟩
  · have e : op d1 d2 = none := by
      rw [ho, es]; exact if_neg c
    rw [e] at h; exact h.elim
theorem vs_in : VS2 X (rInP X.K false) opIn := vs_inG fun a b => by unfold opIn; cases seqOf b <;> rfl
theorem vs_notIn : VS2 X (rInP X.K true) opNotIn := vs_inG fun a b => by unfold opNotIn; cases seqOf b <;> rfl

/-! ### subscripts -/
theorem atI_map {xs : List V} {ds : List D} {F : Hp} {B : List Addr} (r : Reps F B xs ds) {i : Int} {d : D} (h : atI ds i = some d) : ∃ v, atI xs i = some v ∧ Rep F B v d := by
  unfold atI at h ⊢
  rw [r.length]
  cases e : ixN ds.length i with
  | none => rw [e] at h; cases h
  | some j =>
    rw [e] at h
    exact r.get (show ds[j]? = some d from h)
def opIx : D → D → Option R
  | .lst l, .int i => (atI l i).map R.val
  | .tup l, .int i => (atI l i).map R.val
  | _, _ => none
theorem vs_ix : VS2 X (fun x y H Q => rIxL X.K x y H Q ∨ rIxT X.K x y H Q) opIx := by
  intro fr W Φ σ H w Q v1 v2 d1 d2 A R1 R2 h
  cases d1 <;> cases d2 <;> first | exact h.elim | skip
  · rename_i l i
    obtain ⟨a, xs, rfl, ha, _, ra⟩ := pk_tup A.good.sub R1
    cases e : atI l i with
    | none => have e2 : opIx (.tup l) (.int i) = none := by show (atI l i).map R.val = none; rw [e]; rfl
              rw [e2] at h; exact h.elim
    | some d =>
      obtain ⟨v, hv, rv⟩ := atI_map ra e
      exact .inr ⟨a, xs, i, v, rfl, pk_int R2, .inl (.inl ha), hv, ans h A (by show (atI l i).map R.val = _; rw [e]; rfl) rv⟩
  · rename_i l i
    obtain ⟨a, xs, rfl, ha, ra⟩ := pk_lst A.good.sub R1
    cases e : atI l i with
    | none => have e2 : opIx (.lst l) (.int i) = none := by show (atI l i).map R.val = none; rw [e]; rfl
              rw [e2] at h; exact h.elim
    | some d =>
      obtain ⟨v, hv, rv⟩ := atI_map ra e
      exact .inl ⟨a, xs, i, v, rfl, pk_int R2, .inl (.inl ha), hv, ans h A (by show (atI l i).map R.val = _; rw [e]; rfl) rv⟩
end
section
variable {X : Cx} {fr : Fr} {W : WX} {Φ : PhiT} {a b : Expr} {ma mb : M R} {pos : Pos}
theorem pe_un1 {o : UnaryOp} {r : V → Hp → VK → Prop} {op : D → Option R} (ho : UnR X (unaryOp o) r) (vs : VS1 X r op) (ha : PE X a (LE fr W Φ ma)) : PE X (.UnaryOp o a pos) (LE fr W Φ (mOp1 op ma)) := by
  refine PE.imp (pe_un ho (pe_opd ha)) fun σ H Q ⟨w, A, h⟩ => ⟨w, A, (ResG.bind (Rel' := RelP) antiR h).imp ?_⟩
  rintro x H1 ⟨d1, w1, A1, N1, R1, h1⟩
  exact vs fr W Φ σ H1 w1 Q x d1 A1 R1 h1
theorem pe_ixG (ha : PE X a (LE fr W Φ ma)) (hb : PE X b (LE fr W Φ mb)) (hs : PlainIx b) : PE X (.Subscript a b pos) (LE fr W Φ (mOp2 opIx ma mb)) :=
  PE.imp (pe_ix (IxR.or ix_list ix_tup) (pe_opd ha) (pe_opd hb) hs) fun _ _ _ h => two_looks (X := X) vs_ix h
end
end DL
end

section
set_option Elab.async false
set_option linter.all false
set_option maxRecDepth 100000
set_option autoImplicit false
set_option maxHeartbeats 1000000
/-! DL4: names, constants, arguments, displays, tests. -/
namespace DL
open PySem PySem.Spec PyProof.Rows L2

/-! ### slots -/
section
variable {fr : Fr} {σ : L2.St} {H : Hp} {w : Wl}
def Wl.put (w : Wl) (i : Nat) (s : Option Slot) : Wl := { w with ρ := w.ρ.set i s }
theorem put_at {ρ : List (Option Slot)} {i j : Nat} {s : Option Slot} {x : Option Slot} (h : (ρ.set i s)[j]? = some x) : (j = i ∧ x = s ∧ i < ρ.length) ∨ (j ≠ i ∧ ρ[j]? = some x) := by
  by_cases e : i = j
  · subst e
    by_cases l : i < ρ.length
    · rw [List.getElem?_set_self l] at h; exact .inl ⟨rfl, (Option.some.inj h).symm, l⟩
    · rw [List.getElem?_eq_none (by simpa using l)] at h; cases h
  · rw [List.getElem?_set_ne e] at h; exact .inr ⟨fun z => e z.symm, h⟩
theorem own_put {ρ : List (Option Slot)} {i j : Nat} {s : Option Slot} (hs : ∀ c, s ≠ some (.own c)) {a : Addr} (h : OwnAt σ (ρ.set i s) j a) : j ≠ i ∧ OwnAt σ ρ j a := by
  obtain ⟨c, h1, h2⟩ := h
  rcases put_at h1 with ⟨_, e, _⟩ | ⟨e, h1⟩
  · exact absurd e.symm (hs c)
  · exact ⟨e, c, h1, h2⟩
theorem noNone (c : Cont) : (none : Option Slot) ≠ some (.own c) := fun h => by cases h
theorem noVal {d : D} (c : Cont) : (some (.val d) : Option Slot) ≠ some (.own c) := fun h => by cases h
theorem At.drop (A : At fr σ H w) (i : Nat) : At fr σ H (w.put i none) := by
  refine ⟨⟨A.good.sub, A.good.fn, A.good.tab, A.good.nd, A.good.fb, A.good.bag⟩, ⟨A.stp.keep, A.stp.sub, A.stp.bags, A.stp.fz, A.stp.there⟩, ⟨fun j d h => ?_, fun j c h => ?_, fun j k a h1 h2 => ?_, by show (w.ρ.set i none).length = _; rw [List.length_set]; exact A.slots.len⟩⟩
  · rcases put_at h with ⟨_, e, _⟩ | ⟨_, h⟩
    · cases e
    · exact A.slots.val j d h
  · rcases put_at h with ⟨_, e, _⟩ | ⟨_, h⟩
    · cases e
    · exact A.slots.own j c h
  · exact A.slots.inj j k a (own_put noNone h1).2 (own_put noNone h2).2
theorem At.putVal (A : At fr σ H w) {i : Nat} {v : V} {d : D} (hv : σ[i]? = some (some v)) (r : Rep w.F w.B v d) : At fr σ H (w.put i (some (.val d))) := by
  refine ⟨⟨A.good.sub, A.good.fn, A.good.tab, A.good.nd, A.good.fb, A.good.bag⟩, ⟨A.stp.keep, A.stp.sub, A.stp.bags, A.stp.fz, A.stp.there⟩, ⟨fun j e h => ?_, fun j c h => ?_, fun j k a h1 h2 => ?_, by show (w.ρ.set i _).length = _; rw [List.length_set]; exact A.slots.len⟩⟩
  · rcases put_at h with ⟨e1, e2, _⟩ | ⟨_, h⟩
    · subst e1; cases e2; exact ⟨v, hv, r⟩
    · exact A.slots.val j e h
  · rcases put_at h with ⟨_, e, _⟩ | ⟨_, h⟩
    · cases e
    · exact A.slots.own j c h
  · exact A.slots.inj j k a (own_put noVal h1).2 (own_put noVal h2).2
/-- an own object is shut: from here on a value -/
theorem At.freeze (A : At fr σ H w) {i : Nat} {c : Cont} (h : w.ρ[i]? = some (some (.own c))) :
    ∃ v w', At fr σ H w' ∧ Nx σ H w H w' ∧ w'.ρ = w.ρ.set i (some (.val c.d)) ∧ w'.S = w.S ∧ σ[i]? = some (some v) ∧ Rep w'.F w'.B v c.d := by
  obtain ⟨a, h1, h2, h3, h4, h5⟩ := A.slots.own i c h
  obtain ⟨o, z1, z2⟩ := h5
  have no : ¬ Own σ (w.put i none).ρ a := fun ⟨j, hj⟩ => by
    obtain ⟨e, hj⟩ := own_put noNone hj
    exact e (A.slots.inj j i a hj ⟨_, h, h1⟩)
  have A1 := (A.drop i).shut (p := a) z2.nt z1 h2 h3 h4 no
  have k1 : ∀ x u, w.F x = some u → (w.shut a o).F x = some u := fun x u h => by
    show upd w.F a _ x = some u
    rw [upd_ne (ne_of_none h h3)]; exact h
  have r : Rep ((w.put i none).shut a o).F ((w.put i none).shut a o).B (.ref a) c.d := .of_o (show upd w.F a o a = _ from upd_same) (z2.mono k1 fun _ _ h => h)
  refine ⟨.ref a, ((w.put i none).shut a o).put i (some (.val c.d)), A1.putVal h1 r, ?_, ?_, rfl, h1, r⟩
  · refine ⟨fun _ _ h _ _ => h, k1, ⟨[], by simp [Wl.put, Wl.shut], by simp⟩, fun x u h' => ?_, fun _ o h => ⟨o, h⟩, fun x hx => ?_⟩
    · by_cases e : x = a
      · subst e; exact .inr (.inr ⟨i, _, h, h1⟩)
      · have h'' : upd w.F a o x = some u := h'
        rw [upd_ne e] at h''; exact .inl h''
    · obtain ⟨j, hj⟩ := hx
      have hj' := (own_put noVal hj).2
      exact ⟨j, (own_put noNone hj').2⟩
  · show (w.ρ.set i none).set i (some (.val c.d)) = _
    rw [List.set_set]
end
/-! ### the static context -/
theorem takes0N {X : Cx} : L2N.Takes X (fun _ _ _ _ => False) := fun _ _ ⟨_, _, _, _, _, _, _, _, _, _, _, _, _, _, _, _, w⟩ => w.elim
inductive GI where
  | fn (f ar : Nat)
  | int (i : Int)
  | exc
  | exc1
  | tried
  deriving Inhabited
structure Cs where
  N : List Str
  sc : Scope
  st : Str → Bool
  tb : Str → Option GI
  lam : Bool
def bNames : List Str := ["len", "isinstance", "int", "bool", "tuple", "str", "list", "min", "max", "range", "enumerate", "zip", "all", "any", "sum", "sorted", "set", "dict", "abs"]
/-- what is promised of a function of the text -/
def RelF (Hs H : Hp) (w : Wl) (v : V) : R → Prop
  | .val d => Rep w.F w.B v d
  | .own c => ∃ a, v = .ref a ∧ Hs a = none ∧ w.F a = none ∧ a ∉ w.B ∧ CRep H w.F w.B a c
  | .bor _ => False
def SpF (mg : Str → Option Value) (T : List (Addr × Str)) (f : List D → Store → FOut) : Sp := fun vs H Q E => ∃ (w : Wl) (ds : List D), w.ρ = [] ∧ Good T H w ∧ Reps w.F w.B vs ds ∧ match f ds w.S with
  | .ok r S' => ∀ v H' w', w'.ρ = [] → w'.S = S' → Good T H' w' → Stp H w.F w.B (fun _ => False) H' w' → RelF H H' w' v r → Q v H'
  | .ex x S' => ∀ c d H' w', w'.ρ = [] → w'.S = S' → Good T H' w' → Stp H w.F w.B (fun _ => False) H' w' → XOk mg x c d H' → E c d H'
  | .no => False
structure FnK (X : Cx) (mg : Str → Option Value) (T : List (Addr × Str)) (Φ : PhiT) (k : Nat) (x : Str) (f : Nat) (ar : Nat) : Prop where
  ex : ∃ (fa : Addr) (fd : FuncData) (ps : List Str), X.mg x = some (.ref fa) ∧ PySem.W.keepIn X.K (.ref fa) = true ∧ Binds X.K fd ps [] ∧ ps.length = ar ∧
    FnOk X.prog X.w X.K X.mg X.base (L2N.CX X.prog X.w) k fa fd ps (fun vs H Q E => vs.length = ar ∧ SpF mg T (Φ f) vs H Q E)
structure CtxOk (C : Cs) (X : Cx) (fr : Fr) (W : WX) (Φ : PhiT) : Prop where
  N : X.N = C.N
  nd : X.N.Nodup
  sc : X.env.scope = C.sc
  st : ∀ x, C.st x = true → Loc X.env.scope x ∧ (X.fn x = true ∨ X.env.scope.names.lookup x = some .local)
  calm : X.calm = true
  mg : X.mg = fr.mg
  units : X.A.units + 70 < cLine
  takes : L2N.Takes X W
  gint : ∀ x i, C.tb x = some (.int i) → ∃ t, X.mg x = some (.int i t)
  free : ∀ x ∈ bNames, X.mg x = none
  rm : ∃ k, 2 ≤ k ∧ Room k X.A ∧ (C.lam = true → Room (k + 2) X.A) ∧ ∀ x f n, C.tb x = some (.fn f n) → FnK X fr.mg fr.T Φ k x f n
  exc : ∀ x, C.tb x = some .exc → Exc0 X fr.mg x
  exc1 : ∀ x, C.tb x = some .exc1 → Exc1 X fr.mg x
  tri : C.lam = true → CodAt X fr.T ∧ ∀ x, C.tb x = some .tried → TriK X.prog X.w X.K X.mg X.base x

/-! ### names and constants -/
def mC (d : D) : M R := fun _ s => .ok (.val d) s
def mVar (i : Nat) : M R := fun _ s => match s.ρ[i]? with
  | some (some (.val d)) => .ok (.val d) s
  | some (some (.own c)) => .ok (.val c.d) { s with ρ := s.ρ.set i (some (.val c.d)) }
  | _ => .no
def mBor (i : Nat) : M R := fun _ s => match s.ρ[i]? with
  | some (some (.val d)) => .ok (.val d) s
  | some (some (.own c)) => .ok (.bor c.d) s
  | _ => .no
section
variable {C : Cs} {X : Cx} {fr : Fr} {W : WX} {Φ : PhiT} {pos : Pos} {j : Nat}
theorem pe_c {e : Expr} {v : V} {d : D} (h : PE X e (tC v)) (hr : ∀ F B, Rep F B v d) : PE X e (LE fr W Φ (mC d)) :=
  PE.imp h fun σ H Q ⟨w, A, r⟩ => r.here A (hr _ _)
theorem pe_cint {i : Int} : PE X (.Constant (.int i) j pos) (LE fr W Φ (mC (.int i))) := pe_c pe_int fun _ _ => .int i
theorem pe_cbl {b : Bool} : PE X (.Constant (.bool b) j pos) (LE fr W Φ (mC (.bl b))) := pe_c pe_bl fun _ _ => .bl b
theorem pe_cnon : PE X (.Constant .none j pos) (LE fr W Φ (mC .non)) := pe_c pe_non fun _ _ => .non
theorem pe_cstr {x : Str} (h : PyData.strOk x = true) : PE X (.Constant (.str x) j pos) (LE fr W Φ (mC (.str x))) := pe_c pe_str fun _ _ => .str x h
theorem pe_v {i : Nat} {x : Str} (c : CtxOk C X fr W Φ) (hN : C.N[i]? = some x) (hv : Vis C.sc x) (hd : (x == ("__debug__" : Str)) = false) (hcd : (x == ("__classdict__" : Str)) = false) : PE X (.Name x pos) (LE fr W Φ (mVar i)) := by
  refine PE.imp (pe_var (i := i) (by rw [c.N]; exact hN) (by rw [c.sc]; exact hv) hd hcd) fun σ H Q ⟨w, A, r⟩ => ?_
  have r' : ResG fr W σ H w (RelR σ) Q (match w.ρ[i]? with
    | some (some (.val d)) => .ok (.val d) ⟨w.ρ, w.S⟩
    | some (some (.own c)) => .ok (.val c.d) ⟨w.ρ.set i (some (.val c.d)), w.S⟩
    | _ => .no) := r
  cases e : w.ρ[i]? with
  | none => rw [e] at r'; exact r'.elim
  | some o =>
    rw [e] at r'
    cases o with
    | none => exact r'.elim
    | some sl =>
      cases sl with
      | val d =>
        obtain ⟨v, h1, h2⟩ := A.slots.val i d e
        exact ⟨v, h1, ResG.here r' A h2⟩
      | own k =>
        obtain ⟨v, w', A', N', e1, e2, h1, h2⟩ := A.freeze e
        exact ⟨v, h1, r' v H w' e1 e2 A' N' h2⟩
theorem pe_b {i : Nat} {x : Str} (c : CtxOk C X fr W Φ) (hN : C.N[i]? = some x) (hv : Vis C.sc x) (hd : (x == ("__debug__" : Str)) = false) (hcd : (x == ("__classdict__" : Str)) = false) : PE X (.Name x pos) (LE fr W Φ (mBor i)) := by
  refine PE.imp (pe_var (i := i) (by rw [c.N]; exact hN) (by rw [c.sc]; exact hv) hd hcd) fun σ H Q ⟨w, A, r⟩ => ?_
  have r' : ResG fr W σ H w (RelR σ) Q (match w.ρ[i]? with
    | some (some (.val d)) => .ok (.val d) ⟨w.ρ, w.S⟩
    | some (some (.own c)) => .ok (.bor c.d) ⟨w.ρ, w.S⟩
    | _ => .no) := r
  cases e : w.ρ[i]? with
  | none => rw [e] at r'; exact r'.elim
  | some o =>
    rw [e] at r'
    cases o with
    | none => exact r'.elim
    | some sl =>
      cases sl with
      | val d =>
        obtain ⟨v, h1, h2⟩ := A.slots.val i d e
        exact ⟨v, h1, ResG.here r' A h2⟩
      | own k =>
        obtain ⟨a, h1, h2, h3, h4, h5⟩ := A.slots.own i k e
        obtain ⟨o, z1, z2⟩ := h5
        exact ⟨.ref a, h1, ResG.here r' A (show Pk H w.F w.B (.ref a) k.d from .of_o z1 h4 z2)⟩
theorem pe_gint {x : Str} {i : Int} (c : CtxOk C X fr W Φ) (hg : C.sc.names.lookup x = some .globalImplicit) (ht : C.tb x = some (.int i)) (hd : (x == ("__debug__" : Str)) = false) : PE X (.Name x pos) (LE fr W Φ (mC (.int i))) := by
  obtain ⟨t, hm⟩ := c.gint x i ht
  exact pe_c (pe_glob (v := .int i) (show X.env.scope.names.lookup x = _ by rw [c.sc]; exact hg) hm ⟨t, rfl⟩ hd) fun _ _ => .int i
end

/-! ### arguments and displays -/
def mArgs : List (M R) → M (List D)
  | [] => fun _ s => .ok [] s
  | m :: r => fun Φ s => (mFrz m Φ s).bind fun d s1 => (mArgs r Φ s1).bind fun ds s2 => .ok (d :: ds) s2
def mTup (m : M (List D)) : M R := fun Φ s => (m Φ s).bind fun ds s1 => if ds.length ≤ lim then .ok (.val (.tup ds)) s1 else .no
def mLst (m : M (List D)) : M R := fun Φ s => (m Φ s).bind fun ds s1 => if ds.length ≤ lim then .ok (.own (.lst ds)) s1 else .no
section
variable {X : Cx} {fr : Fr} {W : WX} {Φ : PhiT} {pos : Pos} {e : Expr} {es : List Expr} {m : M R} {ms : M (List D)}
theorem pa_nilG : PA X [] (LA fr W Φ (mArgs [])) := PA.imp pa_nil fun σ H Q ⟨w, A, r⟩ => r.here A (by exact .nil)
theorem pa_consG {ml : List (M R)} (h : PE X e (LE fr W Φ m)) (hs : PA X es (LA fr W Φ (mArgs ml))) (hst : starEach (e :: es) X.env = (false, eval e X.env) :: starEach es X.env) : PA X (e :: es) (LA fr W Φ (mArgs (m :: ml))) := by
  refine PA.imp (pa_cons (pe_frz h) hs hst) fun σ H Q ⟨w, A, r⟩ => ?_
  refine ⟨w, A, (ResG.bind (Rel' := RelV') antiA r).imp ?_⟩
  rintro x H1 ⟨d, w1, A1, N1, R1, h1⟩
  refine ⟨w1, A1, (ResG.bind (Rel' := RelA) antiA h1).imp ?_⟩
  rintro xs H2 ⟨ds, w2, A2, N2, R2, h2⟩
  exact h2.here A2 (.cons (N2.rep R1) R2)
theorem pe_tupG {x1} (h : PA X es (LA fr W Φ ms)) : PE X (.Tuple es x1 pos) (LE fr W Φ (mTup ms)) := by
  refine PE.imp (pe_tup h) fun σ H Q ⟨w, A, r⟩ => ⟨w, A, (ResG.bind (Rel' := RelA) antiR r).imp ?_⟩
  rintro xs H1 ⟨ds, w1, A1, N1, R1, h1⟩
  by_cases c : ds.length ≤ lim
  · rw [if_pos c] at h1
    exact ⟨by rw [Reps.length R1]; exact lim_le c, fun p hp => ansTup (Φ := Φ) (o := some (.val (.tup ds))) h1 A1 rfl R1 hp⟩
  · rw [if_neg c] at h1; exact h1.elim
theorem pe_lstG (h : PA X es (LA fr W Φ ms)) : PE X (.List es pos) (LE fr W Φ (mLst ms)) := by
  refine PE.imp (pe_lst h) fun σ H Q ⟨w, A, r⟩ => ⟨w, A, (ResG.bind (Rel' := RelA) antiR r).imp ?_⟩
  rintro xs H1 ⟨ds, w1, A1, N1, R1, h1⟩
  by_cases c : ds.length ≤ lim
  · rw [if_pos c] at h1
    exact ⟨by rw [Reps.length R1]; exact lim_le c, fun p hp => ansNew (Φ := Φ) (o := some (.own (.lst ds))) h1 A1 rfl R1 hp⟩
  · rw [if_neg c] at h1; exact h1.elim
end
/-! ### calls of the text's functions -/
def mCall (f : Nat) (m : M (List D)) : M R := fun Φ s => (m Φ s).bind fun ds s1 => match Φ f ds s1.S with
  | .ok r S' => .ok r { s1 with S := S' }
  | .ex x S' => .ex x { s1 with S := S' }
  | .no => .no
section
variable {C : Cs} {X : Cx} {fr : Fr} {W : WX} {Φ : PhiT} {pos p : Pos} {e : Expr} {es : List Expr} {m : M R} {ml : List (M R)}
/-- behind a call: the frame goes on -/
theorem At.after {σ : L2.St} {H H' : Hp} {w w' : Wl} (A : At fr σ H w) (g : Good fr.T H' w') (st : Stp H w.F w.B (fun _ => False) H' w') : At fr σ H' { w' with ρ := w.ρ } ∧ Nx σ H w H' { w' with ρ := w.ρ } := by
  have bm : ∀ (i : Nat) (a : Addr), w.B[i]? = some a → w'.B[i]? = some a := by
    obtain ⟨C, e, _⟩ := st.bags
    intro i a h
    rw [e, List.getElem?_append_left (List.getElem?_eq_some_iff.mp h).1]
    exact h
  have nb : ∀ a, a ∉ w.B → H a ≠ none → a ∉ w'.B := fun a h1 h2 h3 => by
    obtain ⟨C, e, hC⟩ := st.bags
    rw [e] at h3
    rcases List.mem_append.mp h3 with z | z
    · exact h1 z
    · exact h2 (hC a z)
  refine ⟨⟨⟨g.sub, g.fn, g.tab, g.nd, g.fb, g.bag⟩, ⟨fun a o h hn h1 h2 => ?_, fun a o h => st.sub a o (A.stp.sub a o h), ?_, fun a o h => ?_, fun a o h => ?_⟩, ⟨fun i d h => ?_, fun i c h => ?_, A.slots.inj, A.slots.len⟩⟩, ⟨fun a o h hn h1 => st.keep a o h hn h1 (fun z => z), st.sub, st.bags, fun a o h => ?_, st.there, fun _ h => h⟩⟩
  · refine st.keep a o (A.stp.keep a o h hn h1 h2) hn (fun z => ?_) (fun z => z)
    obtain ⟨C, e, hC⟩ := A.stp.bags
    rw [e] at z
    rcases List.mem_append.mp z with z | z
    · exact h1 z
    · rw [hC a z] at h; cases h
  · obtain ⟨C, e, hC⟩ := A.stp.bags
    obtain ⟨C', e', hC'⟩ := st.bags
    refine ⟨C ++ C', by show w'.B = _; rw [e', e, List.append_assoc], fun c hc => ?_⟩
    rcases List.mem_append.mp hc with z | z
    · exact hC c z
    · exact none_back A.stp.there (hC' c z)
  · rcases st.fz a o h with z | z | z
    · exact A.stp.fz a o z
    · exact .inr (.inl (none_back A.stp.there z))
    · exact z.elim
  · obtain ⟨o', z⟩ := A.stp.there a o h
    exact st.there a o' z
  · obtain ⟨v, h1, h2⟩ := A.slots.val i d h
    exact ⟨v, h1, h2.mono st.sub bm⟩
  · obtain ⟨a, h1, h2, h3, h4, h5⟩ := A.slots.own i c h
    obtain ⟨u, z1, z2⟩ := h5
    have hne : H a ≠ none := fun z => by rw [z] at z1; cases z1
    refine ⟨a, h1, h2, ?_, nb a h4 hne, u, st.keep a _ z1 z2.nt h4 (fun z => z), z2.mono st.sub bm⟩
    cases e : w'.F a with
    | none => rfl
    | some o =>
      rcases st.fz a o e with z | z | z
      · rw [h3] at z; cases z
      · exact absurd z hne
      · exact z.elim
  · rcases st.fz a o h with z | z | z
    · exact .inl z
    · exact .inr (.inl z)
    · exact z.elim
theorem call_res {f : Nat} {σ : L2.St} {H : Hp} {w : Wl} {Q : VK} {vs : List V} {ds : List D} {ar : Nat} (A : At fr σ H w) (R : Reps w.F w.B vs ds) (hl : vs.length = ar)
    (h : ResG fr W σ H w (RelR σ) Q (match Φ f ds w.S with
      | .ok r S' => .ok r ⟨w.ρ, S'⟩
      | .ex x S' => .ex x ⟨w.ρ, S'⟩
      | .no => .no)) : vs.length = ar ∧ SpF fr.mg fr.T (Φ f) vs H Q (WE W σ) := by
  refine ⟨hl, { w with ρ := [] }, ds, rfl, ⟨A.good.sub, A.good.fn, A.good.tab, A.good.nd, A.good.fb, A.good.bag⟩, R, ?_⟩
  show match Φ f ds w.S with
    | .ok r S' => _
    | .ex x S' => _
    | .no => _
  cases e : Φ f ds w.S with
  | no => rw [e] at h; exact h
  | ok r S' =>
    rw [e] at h
    intro v H' w' e1 e2 g st rel
    obtain ⟨A', N'⟩ := A.after g st
    refine h v H' { w' with ρ := w.ρ } rfl e2 A' N' ?_
    cases r with
    | val d => exact rel
    | bor d => exact rel.elim
    | own c =>
      obtain ⟨a, rfl, h1, h2, h3, h4⟩ := rel
      exact ⟨a, rfl, h1, h2, h3, A.newO h1, h4⟩
  | ex x S' =>
    rw [e] at h
    intro c d H' w' e1 e2 g st xo
    obtain ⟨A', N'⟩ := A.after g st
    exact h c d H' { w' with ρ := w.ρ } rfl e2 A' xo
theorem pe_callG {x : Str} {f ar : Nat} (c : CtxOk C X fr W Φ) (hg : C.sc.names.lookup x = some .globalImplicit) (ht : C.tb x = some (.fn f ar)) (hl : (e :: es).length = ar) (hdb : (x == ("__debug__" : Str)) = false)
    (ha : PA X (e :: es) (LA fr W Φ (mArgs ml))) (hml : ml.length = ar) (he : starEach (e :: es) X.env = (false, eval e X.env) :: starEach es X.env) (hpl : (backTo pos (starEach es X.env)).any (·.1) = false) :
    PE X (.Call (.Name x p) (e :: es) [] pos) (LE fr W Φ (mCall f (mArgs ml))) := by
  obtain ⟨k, _, h4, _, hfn⟩ := c.rm
  obtain ⟨fa, fd, ps, h1, h2, h3, h5, F⟩ := (hfn x f ar ht).ex
  refine PE.imp (pe_callS (E := WE W) F h4 (show X.env.scope.names.lookup x = _ by rw [c.sc]; exact hg) h1 h2 h3 (fun σ => L2N.passAt c.takes σ) ha hdb he hpl) fun σ H Q ⟨w, A, r⟩ => ?_
  refine ⟨w, A, ?_⟩
  have ln : ∀ (ml : List (M R)) (s : Sta), match mArgs ml Φ s with
      | .ok ds _ => ds.length = ml.length
      | _ => True := by
    intro ml
    induction ml with
    | nil => intro s; rfl
    | cons m r ih =>
      intro s
      show match ((mFrz m Φ s).bind fun d s1 => (mArgs r Φ s1).bind fun ds s2 => .ok (d :: ds) s2) with
        | .ok ds _ => ds.length = (m :: r).length
        | _ => True
      cases mFrz m Φ s with
      | no => trivial
      | ex x s => trivial
      | ok d s1 =>
        show match ((mArgs r Φ s1).bind fun ds s2 => .ok (d :: ds) s2) with
          | .ok ds _ => ds.length = (m :: r).length
          | _ => True
        have q := ih s1
        cases e : mArgs r Φ s1 with
        | no => trivial
        | ex x s => trivial
        | ok ds s2 => rw [e] at q; show (d :: ds).length = _; simp at q ⊢; exact q
  have q := ln ml ⟨w.ρ, w.S⟩
  have r0 : ResG fr W σ H w (RelR σ) Q ((mArgs ml Φ ⟨w.ρ, w.S⟩).bind fun ds s1 => match Φ f ds s1.S with
    | .ok r S' => .ok r { s1 with S := S' }
    | .ex x S' => .ex x { s1 with S := S' }
    | .no => .no) := r
  have r1 := ResG.bind (Rel' := fun Hs H w (vs : List V) (ds : List D) => Reps w.F w.B vs ds ∧ ds.length = ar) antiR r0
  generalize mArgs ml Φ ⟨w.ρ, w.S⟩ = o at q r1 ⊢
  cases o with
  | no => exact r1
  | ex x s => exact r1
  | ok ds s =>
    intro vs H1 w1 e1 e2 A1 N1 R1
    have hd : ds.length = ar := q.trans hml
    obtain ⟨ds', w1', A1', N1', R1', h'⟩ := r1 vs H1 w1 e1 e2 A1 N1 ⟨R1, hd⟩
    exact call_res A1' R1'.1 (by rw [R1'.1.length]; exact R1'.2) h'
end
end DL
end

section
set_option Elab.async false
set_option linter.all false
set_option maxRecDepth 100000
set_option autoImplicit false
set_option maxHeartbeats 1000000
/-! DL5: tests, and | or | not, conditional expressions, chains, slices. -/
namespace DL
open PySem PySem.Spec PyProof.Rows L2

def mNot (m : M Bool) : M Bool := fun Φ s => (m Φ s).bind fun b s1 => .ok (!b) s1
def mAnd (a b : M Bool) : M Bool := fun Φ s => (a Φ s).bind fun x s1 => if x = true then b Φ s1 else .ok false s1
def mOr (a b : M Bool) : M Bool := fun Φ s => (a Φ s).bind fun x s1 => if x = true then .ok true s1 else b Φ s1
/-- and, or as values: all but the last are bools -/
def mAndV (a b : M R) : M R := fun Φ s => (mBool a Φ s).bind fun x s1 => if x = true then b Φ s1 else .ok (.val (.bl false)) s1
def mOrV (a b : M R) : M R := fun Φ s => (mBool a Φ s).bind fun x s1 => if x = true then .ok (.val (.bl true)) s1 else b Φ s1
def mNotV (a : M R) : M R := fun Φ s => (mBool a Φ s).bind fun x s1 => .ok (.val (.bl (!x))) s1
def mIfE (c : M Bool) (a b : M R) : M R := fun Φ s => (c Φ s).bind fun x s1 => if x = true then a Φ s1 else b Φ s1
/-- a < b < c, on ints -/
def mChain (f g : Int → Int → Bool) (a b c : M R) : M R := fun Φ s => (mOpd a Φ s).bind fun x s1 => (mOpd b Φ s1).bind fun y s2 => match x, y with
  | .int i, .int j => if f i j = true then (mOpd c Φ s2).bind fun z s3 => (match z with
    | .int k => .ok (.val (.bl (g j k))) s3
    | _ => .no) else .ok (.val (.bl false)) s2
  | _, _ => .no
section
variable {X : Cx} {fr : Fr} {W : WX} {Φ : PhiT} {pos : Pos} {a b c : Expr} {ma mb mc : M R} {ba bb : M Bool} {rest : List Expr}
theorem ptA_not (h : PT X a (LB fr W Φ ba)) : PT X (.UnaryOp .Not a pos) (LB fr W Φ (mNot ba)) := by
  refine PT.imp (pt_not h) fun σ H Q ⟨w, A, r⟩ => ⟨w, A, (ResG.bind (Rel' := RelB) antiB r).imp ?_⟩
  rintro x H1 ⟨d, w1, A1, N1, R1, h1⟩
  cases R1
  exact h1.here A1 rfl
theorem ptA_ife (hc : PT X c (LB fr W Φ ba)) (ha : PE X a (LE fr W Φ ma)) (hb : PE X b (LE fr W Φ mb)) : PE X (.IfExp c a b pos) (LE fr W Φ (mIfE ba ma mb)) := by
  refine PE.imp (pe_ifExp hc ha hb) fun σ H Q ⟨w, A, r⟩ => ⟨w, A, (ResG.bind (Rel' := RelB) antiR r).imp ?_⟩
  rintro x H1 ⟨d, w1, A1, N1, R1, h1⟩
  cases R1
  cases x with
  | true => exact ⟨w1, A1, h1⟩
  | false => exact ⟨w1, A1, h1⟩
theorem pwA_and1 (h : PT X a (LB fr W Φ ba)) : PW X (.BoolOp .And [a] pos) (LB fr W Φ ba) := pw_and1 h
theorem pwA_or1 (h : PT X a (LB fr W Φ ba)) : PW X (.BoolOp .Or [a] pos) (LB fr W Φ ba) := pw_or1 h
theorem PW.imp {e : Expr} {t t' : TT} (h : PW X e t) (hi : ∀ σ H Q, t' σ H Q → t σ H Q) : PW X e t' := ⟨fun wh pins s σ H Q I q => h.run wh pins s σ H Q I (hi σ H Q q)⟩
theorem pwA_and (ha : PT X a (LB fr W Φ ba)) (hb : PW X (.BoolOp .And (b :: rest) pos) (LB fr W Φ bb)) : PW X (.BoolOp .And (a :: b :: rest) pos) (LB fr W Φ (mAnd ba bb)) := by
  refine PW.imp (pw_and ha hb) fun σ H Q ⟨w, A, r⟩ => ⟨w, A, (ResG.bind (Rel' := RelB) antiB r).imp ?_⟩
  rintro x H1 ⟨d, w1, A1, N1, R1, h1⟩
  cases R1
  cases x with
  | true => exact ⟨w1, A1, h1⟩
  | false => exact h1.here A1 rfl
theorem pwA_or (ha : PT X a (LB fr W Φ ba)) (hb : PW X (.BoolOp .Or (b :: rest) pos) (LB fr W Φ bb)) : PW X (.BoolOp .Or (a :: b :: rest) pos) (LB fr W Φ (mOr ba bb)) := by
  refine PW.imp (pw_or ha hb) fun σ H Q ⟨w, A, r⟩ => ⟨w, A, (ResG.bind (Rel' := RelB) antiB r).imp ?_⟩
  rintro x H1 ⟨d, w1, A1, N1, R1, h1⟩
  cases R1
  cases x with
  | true => exact h1.here A1 rfl
  | false => exact ⟨w1, A1, h1⟩
/-- a value that is a bool, ahead of more -/
theorem bool_first {m : M R} {k : Bool → Sta → Out R} {σ : L2.St} {H : Hp} {Q : VK} {w : Wl} (A : At fr σ H w) (h : ResG fr W σ H w (RelR σ) Q ((mBool m Φ ⟨w.ρ, w.S⟩).bind k)) :
    LE fr W Φ m σ H (fun x H1 => ∃ c, x = .bl c ∧ ∃ w1, At fr σ H1 w1 ∧ ResG fr W σ H1 w1 (RelR σ) Q (k c ⟨w1.ρ, w1.S⟩)) := by
  have h1 := ResG.bind (Rel' := RelB) antiR h
  refine (to_bool (fr := fr) (W := W) (Φ := Φ) (m := m) (t := LE fr W Φ m) (fun _ _ _ z => z) σ H (fun b H1 => ∃ w1, At fr σ H1 w1 ∧ ResG fr W σ H1 w1 (RelR σ) Q (k b ⟨w1.ρ, w1.S⟩)) ⟨w, A, h1.imp ?_⟩)
  rintro b H1 ⟨d, w1, A1, N1, R1, h2⟩
  cases R1
  exact ⟨w1, A1, h2⟩
theorem peA_and (ha : PE X a (LE fr W Φ ma)) (hb : PE X (.BoolOp .And (b :: rest) pos) (LE fr W Φ mb)) : PE X (.BoolOp .And (a :: b :: rest) pos) (LE fr W Φ (mAndV ma mb)) := by
  refine PE.imp (pe_and ha hb) fun σ H Q ⟨w, A, r⟩ => (bool_first A r).imp ?_
  rintro x H1 ⟨c, rfl, w1, A1, h1⟩
  refine ⟨c, rfl, ?_⟩
  cases c with
  | true => exact ⟨w1, A1, h1⟩
  | false => exact h1.here A1 (show Rep _ _ _ _ from .bl false)
theorem peA_or (ha : PE X a (LE fr W Φ ma)) (hb : PE X (.BoolOp .Or (b :: rest) pos) (LE fr W Φ mb)) : PE X (.BoolOp .Or (a :: b :: rest) pos) (LE fr W Φ (mOrV ma mb)) := by
  refine PE.imp (pe_or ha hb) fun σ H Q ⟨w, A, r⟩ => (bool_first A r).imp ?_
  rintro x H1 ⟨c, rfl, w1, A1, h1⟩
  refine ⟨c, rfl, ?_⟩
  cases c with
  | true => exact h1.here A1 (show Rep _ _ _ _ from .bl true)
  | false => exact ⟨w1, A1, h1⟩
theorem peA_not (ha : PE X a (LE fr W Φ ma)) : PE X (.UnaryOp .Not a pos) (LE fr W Φ (mNotV ma)) := by
  refine PE.imp (pe_not ha) fun σ H Q ⟨w, A, r⟩ => (bool_first A r).imp ?_
  rintro x H1 ⟨c, rfl, w1, A1, h1⟩
  exact ⟨c, rfl, h1.here A1 (show Rep _ _ _ _ from .bl _)⟩
theorem chain_look {f g : Int → Int → Bool} {σ : L2.St} {H : Hp} {Q : VK} (h : LE fr W Φ (mChain f g ma mb mc) σ H Q) :
    tChain (rI0 fun i j => .bl (f i j)) (rI0 fun i j => .bl (g i j)) (LP fr W Φ (mOpd ma)) (LP fr W Φ (mOpd mb)) (LP fr W Φ (mOpd mc)) σ H Q := by
  obtain ⟨w, A, r⟩ := h
  refine ⟨w, A, (ResG.bind (Rel' := RelP) antiR r).imp ?_⟩
  rintro x H1 ⟨d1, w1, A1, N1, R1, h1⟩
  refine ⟨w1, A1, (ResG.bind (Rel' := RelP) antiR h1).imp ?_⟩
  rintro y H2 ⟨d2, w2, A2, N2, R2, h2⟩
  have R1' := N2.pk R1
  cases d1 <;> first | exact h2.elim | skip
  cases d2 <;> first | exact h2.elim | skip
  rename_i i j
  refine ⟨i, j, pk_int R1', pk_int R2, f i j, rfl, ?_⟩
  have h3 : ResG fr W σ H2 w2 (RelR σ) Q (if f i j = true then (mOpd mc Φ ⟨w2.ρ, w2.S⟩).bind fun z s3 => (match z with
    | .int k => .ok (.val (.bl (g j k))) s3
    | _ => .no) else .ok (.val (.bl false)) ⟨w2.ρ, w2.S⟩) := h2
  by_cases q : f i j = true
  · rw [if_pos q] at h3 ⊢
    refine ⟨w2, A2, (ResG.bind (Rel' := RelP) antiR h3).imp ?_⟩
    rintro z H3 ⟨d3, w3, A3, N3, R3, h4⟩
    cases d3 <;> first | exact h4.elim | skip
    exact ⟨j, _, pk_int R2, pk_int R3, h4.here A3 (show Rep _ _ _ _ from .bl _)⟩
  · rw [if_neg q] at h3 ⊢
    exact h3.here A2 (show Rep _ _ _ _ from .bl _)
theorem pe_chainG {o o' : CmpOp} {f g : Int → Int → Bool} (ho : OpR X (compareOp o) (rI0 fun i j => .bl (f i j))) (ho' : OpR X (compareOp o') (rI0 fun i j => .bl (g i j))) (ha : PE X a (LE fr W Φ ma)) (hb : PE X b (LE fr W Φ mb)) (hc : PE X c (LE fr W Φ mc))
    (hm : lastMarks [o, o'] [b, c] = false) : PE X (.Compare a [o, o'] [b, c] pos) (LE fr W Φ (mChain f g ma mb mc)) :=
  PE.imp (pe_chain ho ho' (pe_opd ha) (pe_opd hb) (pe_opd hc) hm) fun _ _ _ h => chain_look h
theorem pt_chainG {o o' : CmpOp} {f g : Int → Int → Bool} (ho : OpR X (compareOp o) (rI0 fun i j => .bl (f i j))) (ho' : OpR X (compareOp o') (rI0 fun i j => .bl (g i j))) (ha : PE X a (LE fr W Φ ma)) (hb : PE X b (LE fr W Φ mb)) (hc : PE X c (LE fr W Φ mc))
    (hm : lastMarks [o, o'] [b, c] = false) : PT X (.Compare a [o, o'] [b, c] pos) (LB fr W Φ (mBool (mChain f g ma mb mc))) :=
  PT.imp (pt_chain ho ho' (pe_opd ha) (pe_opd hb) (pe_opd hc) hm) (to_bool fun _ _ _ h => chain_look h)
theorem pt_valG (h : PE X a (LE fr W Φ ma)) (he : ∀ whole, isTrue a X.env whole = (do let v ← whole; standAt a.pos; holding [v] (truthy v))) : PT X a (LB fr W Φ (mBool ma)) :=
  PT.imp (pt_val h he) (to_bool (t := LE fr W Φ ma) fun _ _ _ h => h)
end
/-! ### slices -/
def cutD {α : Type} (xs : List α) (lo hi : Option Int) : List α := (xs.drop (HT.sIx xs.length 0 lo)).take (HT.sIx xs.length xs.length hi - HT.sIx xs.length 0 lo)
def opSl (d : D) (lo hi : Option Int) : Option R := match d with
  | .lst l => some (.own (.lst (cutD l lo hi)))
  | .tup l => some (.val (.tup (cutD l lo hi)))
  | .scr l => some (.own (.lst ((cutD l lo hi).map D.int)))
  | _ => none
def mPart (m : Option (M R)) : M (Option Int) := fun Φ s => match m with
  | none => .ok none s
  | some m => (mOpd m Φ s).bind fun d s1 => match d with
    | .int i => .ok (some i) s1
    | _ => .no
def mSl (m : M R) (lo hi : Option (M R)) : M R := fun Φ s => (mOpd m Φ s).bind fun d s1 => (mPart lo Φ s1).bind fun l s2 => (mPart hi Φ s2).bind fun h s3 => ofO (opSl d l h) Φ s3
def RelO' : Rl (Option Int) (Option Int) := fun _ _ _ b a => b = a
theorem cut_reps {F : Hp} {B : List Addr} {xs : List V} {ds : List D} (r : Reps F B xs ds) (lo hi : Option Int) : Reps F B (cutV xs lo hi) (cutD ds lo hi) := by
  unfold cutV cutD
  rw [r.length]
  exact (r.drop _).take _
theorem cut_whole {α : Type} {xs : List α} {lo hi : Option Int} (h : HT.sIx xs.length 0 lo = 0 ∧ HT.sIx xs.length xs.length hi = xs.length) : cutD xs lo hi = xs := by
  unfold cutD
  rw [h.1, h.2]
  simp
section
variable {X : Cx} {fr : Fr} {W : WX} {Φ : PhiT} {pos p2 : Pos} {e : Expr} {m : M R} {lo hi : Option Expr} {ml mh : Option (M R)}
theorem po_noneG : PO X none (fun σ H Q => LiftG fr W Φ RelO' (mPart none) σ H Q) := ⟨fun pins s σ H Q I ⟨w, A, r⟩ => po_none.run pins s σ H Q I (r.here A rfl)⟩
theorem po_someG (h : PE X e (LE fr W Φ m)) : PO X (some e) (fun σ H Q => LiftG fr W Φ RelO' (mPart (some m)) σ H Q) := by
  refine ⟨fun pins s σ H Q I ⟨w, A, r⟩ => (po_some (pe_opd h)).run pins s σ H Q I ⟨w, A, (ResG.bind (Rel' := RelP) (fun _ _ _ _ _ _ _ z => z) r).imp ?_⟩⟩
  rintro x H1 ⟨d, w1, A1, N1, R1, h1⟩
  cases d <;> first | exact h1.elim | skip
  exact ⟨_, pk_int R1, h1.here A1 rfl⟩
theorem sl_G : SlR X (fun x lo hi H Q => rSlL X.K x lo hi H Q ∨ rSlA X.K x lo hi H Q) := SlR.or sl_list sl_tupA
theorem pe_sliceG (he : PE X e (LE fr W Φ m)) (hl : PO X lo (fun σ H Q => LiftG fr W Φ RelO' (mPart ml) σ H Q)) (hh : PO X hi (fun σ H Q => LiftG fr W Φ RelO' (mPart mh) σ H Q)) :
    PE X (.Subscript e (.Slice lo hi none p2) pos) (LE fr W Φ (mSl m ml mh)) := by
  refine PE.imp (pe_slice sl_G (pe_opd he) hl hh) fun σ H Q ⟨w, A, r⟩ => ⟨w, A, (ResG.bind (Rel' := RelP) antiR r).imp ?_⟩
  rintro x H1 ⟨d, w1, A1, N1, R1, h1⟩
  refine ⟨w1, A1, (ResG.bind (Rel' := RelO') antiR h1).imp ?_⟩
  rintro l H2 ⟨l', w2, A2, N2, rfl, h2⟩
  refine ⟨w2, A2, (ResG.bind (Rel' := RelO') antiR h2).imp ?_⟩
  rintro u H3 ⟨u', w3, A3, N3, rfl, h3⟩
  have R := N3.pk (N2.pk R1)
  cases d <;> first | exact h3.elim | skip
  · rename_i ds
    obtain ⟨a, xs, rfl, ha, hf, ra⟩ := pk_tup A3.good.sub R
    refine .inr ⟨a, xs, rfl, .inl (.inl ha), fun hw => ?_, fun hw p hp => ?_⟩
    · have e1 : cutD ds l u = ds := cut_whole (by rw [← ra.length]; exact hw)
      exact ans h3 A3 (by show (some (.val (.tup (cutD ds l u))) : Option DL.R) = _; rw [e1]) (.tup hf ra)
    · exact ansTup h3 A3 rfl (cut_reps ra l u) hp
  · obtain ⟨a, xs, rfl, ha, ra⟩ := pk_lst A3.good.sub R
    exact .inl ⟨a, xs, rfl, .inl (.inl ha), fun p hp => ansNew h3 A3 rfl (cut_reps ra l u) hp⟩
  · rename_i ns
    cases R with
    | rep R =>
      cases R with
      | @scr a o _ hf ho =>
        refine .inl ⟨a, ns.map V.int, rfl, .inl (by
          rcases ho with rfl | ⟨ob, rfl⟩
          · exact .inl (A3.good.sub _ _ hf)
          · exact .inr ⟨ob, A3.good.sub _ _ hf⟩), fun p hp => ansNew h3 A3 rfl ?_ hp⟩
        have e1 : cutV (ns.map V.int) l u = (cutD ns l u).map V.int := by
          unfold cutV cutD
          rw [List.length_map, List.map_take, List.map_drop]
        rw [e1]
        exact Reps.ints _
end
end DL
end

section
set_option Elab.async false
set_option linter.all false
set_option maxRecDepth 100000
set_option autoImplicit false
set_option maxHeartbeats 1000000
/-! DL6: statements. -/
namespace DL
open PySem PySem.Spec PyProof.Rows L2

inductive Fl where
  | nx | ret (r : R) | brk | ct
def ResS (fr : Fr) (W : WX) (D : Ends) : Out Fl → Prop
  | .ok .nx s => ∀ σ' H' w', w'.ρ = s.ρ → w'.S = s.S → At fr σ' H' w' → D.nx σ' H'
  | .ok .brk s => ∀ σ' H' w', w'.ρ = s.ρ → w'.S = s.S → At fr σ' H' w' → D.bk σ' H'
  | .ok .ct s => ∀ σ' H' w', w'.ρ = s.ρ → w'.S = s.S → At fr σ' H' w' → D.ct σ' H'
  | .ok (.ret r) s => ∀ v σ' H' w', w'.ρ = s.ρ → w'.S = s.S → At fr σ' H' w' → RelF fr.H0 H' w' v r → D.rt v H'
  | .ex x s => ∀ c d σ' H' w', w'.ρ = s.ρ → w'.S = s.S → At fr σ' H' w' → XOk fr.mg x c d H' → W c d σ' H'
  | .no => False
abbrev LS (fr : Fr) (W : WX) (Φ : PhiT) (m : M Fl) : TS := fun D σ H => ∃ w, At fr σ H w ∧ ResS fr W D (m Φ ⟨w.ρ, w.S⟩)
theorem ResS.imp {fr : Fr} {W : WX} {D D' : Ends} {o : Out Fl} (h : ResS fr W D o) (h1 : ∀ σ H, D.nx σ H → D'.nx σ H) (h2 : ∀ v H, D.rt v H → D'.rt v H) (h3 : ∀ σ H, D.bk σ H → D'.bk σ H) (h4 : ∀ σ H, D.ct σ H → D'.ct σ H) : ResS fr W D' o := by
  cases o with
  | no => exact h
  | ex x s => exact h
  | ok f s =>
    cases f with
    | nx => exact fun σ' H' w' a b c => h1 _ _ (h σ' H' w' a b c)
    | brk => exact fun σ' H' w' a b c => h3 _ _ (h σ' H' w' a b c)
    | ct => exact fun σ' H' w' a b c => h4 _ _ (h σ' H' w' a b c)
    | ret r => exact fun v σ' H' w' a b c d => h2 _ _ (h v σ' H' w' a b c d)
/-- an expression ahead of a statement's rest -/
theorem ResS.bind {α β : Type} {fr : Fr} {W : WX} {D : Ends} {σ : L2.St} {H : Hp} {w : Wl} {Rel : Rl α β} {o : Out α} {f : α → Sta → Out Fl} (h : ResS fr W D (o.bind f)) :
    ResG fr W σ H w Rel (fun b H1 => ∃ a w1, At fr σ H1 w1 ∧ Nx σ H w H1 w1 ∧ Rel H H1 w1 b a ∧ ResS fr W D (f a ⟨w1.ρ, w1.S⟩)) o := by
  cases o with
  | ok r s =>
    intro b H1 w1 e1 e2 A N R
    refine ⟨r, w1, A, N, R, ?_⟩
    have e : (⟨w1.ρ, w1.S⟩ : Sta) = s := by cases s; simp_all
    rw [e]; exact h
  | ex x s => exact fun c d H' w' e1 e2 A xo => h c d σ H' w' e1 e2 A xo
  | no => exact h
def mSeq (a b : M Fl) : M Fl := fun Φ s => (a Φ s).bind fun f s1 => match f with
  | .nx => b Φ s1
  | f => .ok f s1
def mSkip : M Fl := fun _ s => .ok .nx s
def slotOf : R → Option Slot
  | .val d => some (.val d)
  | .own c => some (.own c)
  | .bor _ => none
def mAsg (i : Nat) (m : M R) : M Fl := fun Φ s => (m Φ s).bind fun r s1 => match slotOf r with
  | some sl => if i < s1.ρ.length then .ok .nx { s1 with ρ := s1.ρ.set i (some sl) } else .no
  | none => .no
def mRet (m : M R) : M Fl := fun Φ s => (m Φ s).bind fun r s1 => match r with
  | .bor _ => .no
  | r => .ok (.ret r) s1
/-- return x: an own object is handed on -/
def mRetV (i : Nat) : M Fl := fun Φ s => match s.ρ[i]? with
  | some (some (.val d)) => .ok (.ret (.val d)) s
  | some (some (.own c)) => .ok (.ret (.own c)) s
  | _ => .no
def mIf (c : M Bool) (a b : M Fl) : M Fl := fun Φ s => (c Φ s).bind fun x s1 => if x = true then a Φ s1 else b Φ s1
def mDrop (m : M R) : M Fl := fun Φ s => (m Φ s).bind fun _ s1 => .ok .nx s1
section
variable {X : Cx} {fr : Fr} {W : WX} {Φ : PhiT} {pos : Pos} {e : Expr} {m : M R} {st : Stmt} {sts : List Stmt} {ma mb : M Fl} {b : M Bool}
theorem pss_nilG : PSs X [] (LS fr W Φ mSkip) := PSs.imp pss_nil fun D σ H ⟨w, A, r⟩ => r σ H w rfl rfl A
theorem pss_oneG (h : PS X st (LS fr W Φ ma)) : PSs X [st] (LS fr W Φ ma) := pss_one h
theorem pss_consG (h : PS X st (LS fr W Φ ma)) (hs : PSs X sts (LS fr W Φ mb)) : PSs X (st :: sts) (LS fr W Φ (mSeq ma mb)) := by
  refine PSs.imp (pss_cons h hs) fun D σ H ⟨w, A, r⟩ => ⟨w, A, ?_⟩
  have r' : ResS fr W D ((ma Φ ⟨w.ρ, w.S⟩).bind fun f s1 => match f with
    | .nx => mb Φ s1
    | f => .ok f s1) := r
  generalize ma Φ ⟨w.ρ, w.S⟩ = o at r' ⊢
  cases o with
  | no => exact r'
  | ex x s => exact r'
  | ok f s =>
    cases f with
    | nx =>
      intro σ' H' w' e1 e2 A'
      have e : (⟨w'.ρ, w'.S⟩ : Sta) = s := by cases s; simp_all
      exact ⟨w', A', by rw [e]; exact r'⟩
    | brk => exact r'
    | ct => exact r'
    | ret r => exact r'
theorem ps_passG : PS X (.Pass pos) (LS fr W Φ mSkip) := PS.imp ps_pass fun D σ H ⟨w, A, r⟩ => r σ H w rfl rfl A
theorem ps_ifG {c : Expr} {x y : List Stmt} (hc : PT X c (LB fr W Φ b)) (ha : PSs X x (LS fr W Φ ma)) (hb : PSs X y (LS fr W Φ mb)) : PS X (.If c x y pos) (LS fr W Φ (mIf b ma mb)) := by
  refine PS.imp (ps_if hc ha hb) fun D σ H ⟨w, A, r⟩ => ⟨w, A, (ResS.bind (Rel := RelB) r).imp ?_⟩
  rintro x H1 ⟨d, w1, A1, N1, R1, h1⟩
  cases R1
  cases x with
  | true => exact ⟨w1, A1, h1⟩
  | false => exact ⟨w1, A1, h1⟩
theorem ps_exprG (he : PE X e (LE fr W Φ m)) (hs : swapsWith e none pos.line X.env = Pure.pure false) : PS X (.Expr e pos) (LS fr W Φ (mDrop m)) := by
  refine PS.imp (ps_expr he hs) fun D σ H ⟨w, A, r⟩ => ⟨w, A, (ResS.bind (Rel := RelR σ) r).imp ?_⟩
  rintro x H1 ⟨d, w1, A1, N1, R1, h1⟩
  exact h1 σ H1 w1 rfl rfl A1
theorem relF_of {σ : L2.St} {H H1 : Hp} {w : Wl} {w1 : Wl} (A : At fr σ H w) {v : V} {r : R} (h : RelR σ H H1 w1 v r) (hb : ∀ d, r ≠ .bor d) : RelF fr.H0 H1 w1 v r := by
  cases r with
  | val d => exact h
  | bor d => exact absurd rfl (hb d)
  | own c =>
    obtain ⟨a, rfl, h1, h2, h3, h4, h5⟩ := h
    exact ⟨a, rfl, A.new0 h1, h2, h3, h5⟩
theorem ps_retG (he : PE X e (LE fr W Φ m)) : PS X (.Return (some e) pos) (LS fr W Φ (mRet m)) := by
  refine PS.imp (ps_ret he) fun D σ H ⟨w, A, r⟩ => ⟨w, A, (ResS.bind (Rel := RelR σ) r).imp ?_⟩
  rintro x H1 ⟨r, w1, A1, N1, R1, h1⟩
  cases r with
  | bor d => exact h1.elim
  | val d => exact h1 x σ H1 w1 rfl rfl A1 (relF_of A R1 fun _ z => nomatch z)
  | own c => exact h1 x σ H1 w1 rfl rfl A1 (relF_of A R1 fun _ z => nomatch z)
theorem ps_retNG : PS X (.Return none pos) (LS fr W Φ (mRet (mC .non))) := PS.imp ps_retN fun D σ H ⟨w, A, r⟩ => r .non σ H w rfl rfl A (show Rep _ _ _ _ from .non)
theorem ps_retVG {C : Cs} {x : Str} {i : Nat} {p2 : Pos} (c : CtxOk C X fr W Φ) (hN : C.N[i]? = some x) (hv : Vis C.sc x) (hd : (x == ("__debug__" : Str)) = false) (hcd : (x == ("__classdict__" : Str)) = false) :
    PS X (.Return (some (.Name x p2)) pos) (LS fr W Φ (mRetV i)) := by
  refine PS.imp (ps_ret (pe_var (i := i) (by rw [c.N]; exact hN) (by rw [c.sc]; exact hv) hd hcd)) fun D σ H ⟨w, A, r⟩ => ?_
  have r' : ResS fr W D (match w.ρ[i]? with
    | some (some (.val d)) => .ok (.ret (.val d)) ⟨w.ρ, w.S⟩
    | some (some (.own c)) => .ok (.ret (.own c)) ⟨w.ρ, w.S⟩
    | _ => .no) := r
  cases e : w.ρ[i]? with
  | none => rw [e] at r'; exact r'.elim
  | some o =>
    rw [e] at r'
    cases o with
    | none => exact r'.elim
    | some sl =>
      cases sl with
      | val d =>
        obtain ⟨v, h1, h2⟩ := A.slots.val i d e
        exact ⟨v, h1, r' v σ H w rfl rfl A h2⟩
      | own k =>
        obtain ⟨a, h1, h2, h3, h4, h5⟩ := A.slots.own i k e
        exact ⟨.ref a, h1, r' (.ref a) σ H w rfl rfl A ⟨a, rfl, h2, h3, h4, h5⟩⟩
/-! ### assignments -/
theorem At.assign {σ : L2.St} {Hs H : Hp} {w : Wl} (A : At fr σ H w) {i : Nat} {v : V} {r : R} {sl : Slot} (h0 : ∀ a, Hs a = none → fr.H0 a = none) (hi : i < w.ρ.length) (R : RelR σ Hs H w v r) (hs : slotOf r = some sl) :
    At fr (σ.set i (some v)) H (w.put i (some sl)) := by
  have hl : i < σ.length := by rw [← A.slots.len]; exact hi
  have back : ∀ {j : Nat} {a : Addr}, j ≠ i → OwnAt (σ.set i (some v)) (w.ρ.set i (some sl)) j a → OwnAt σ w.ρ j a := fun {j a} ne ⟨c, h1, h2⟩ => by
    rw [List.getElem?_set_ne (Ne.symm ne)] at h1 h2
    exact ⟨c, h1, h2⟩
  have at_i : ∀ {a : Addr}, OwnAt (σ.set i (some v)) (w.ρ.set i (some sl)) i a → ∃ c, sl = .own c ∧ v = .ref a := fun {a} ⟨c, h1, h2⟩ => by
    rw [List.getElem?_set_self hi] at h1
    rw [List.getElem?_set_self hl] at h2
    cases h1; cases h2
    exact ⟨c, rfl, rfl⟩
  have own_r : ∀ c, sl = .own c → r = .own c := fun c e => by
    subst e
    cases r <;> first | (cases hs; rfl) | cases hs
  have val_r : ∀ d, sl = .val d → r = .val d := fun c e => by
    subst e
    cases r <;> first | (cases hs; rfl) | cases hs
  refine ⟨⟨A.good.sub, A.good.fn, A.good.tab, A.good.nd, A.good.fb, A.good.bag⟩, ⟨A.stp.keep, A.stp.sub, A.stp.bags, A.stp.fz, A.stp.there⟩, ⟨fun j d h => ?_, fun j c h => ?_, fun j k a h1 h2 => ?_, by show (w.ρ.set i _).length = (σ.set i _).length; rw [List.length_set, List.length_set]; exact A.slots.len⟩⟩
  · rcases put_at h with ⟨e1, e2, _⟩ | ⟨ne, h⟩
    · subst e1
      have e := val_r d (Option.some.inj e2).symm
      subst e
      exact ⟨v, List.getElem?_set_self hl, R⟩
    · obtain ⟨u, h1, h2⟩ := A.slots.val j d h
      exact ⟨u, by rw [List.getElem?_set_ne (Ne.symm ne)]; exact h1, h2⟩
  · rcases put_at h with ⟨e1, e2, _⟩ | ⟨ne, h⟩
    · subst e1
      have e := own_r c (Option.some.inj e2).symm
      subst e
      obtain ⟨a, rfl, h1, h2, h3, h4, h5⟩ := R
      exact ⟨a, List.getElem?_set_self hl, h0 a h1, h2, h3, h5⟩
    · obtain ⟨a, h1, h2⟩ := A.slots.own j c h
      exact ⟨a, by rw [List.getElem?_set_ne (Ne.symm ne)]; exact h1, h2⟩
  · by_cases ej : j = i
    · by_cases ek : k = i
      · rw [ej, ek]
      · subst ej
        obtain ⟨c, e1, e2⟩ := at_i h1
        have e := own_r c e1
        subst e e2
        obtain ⟨a', e3, _, _, _, h4, _⟩ := R
        cases e3
        exact absurd ⟨k, back ek h2⟩ h4
    · by_cases ek : k = i
      · subst ek
        obtain ⟨c, e1, e2⟩ := at_i h2
        have e := own_r c e1
        subst e e2
        obtain ⟨a', e3, _, _, _, h4, _⟩ := R
        cases e3
        exact absurd ⟨j, back ej h1⟩ h4
      · exact A.slots.inj j k a (back ej h1) (back ek h2)
theorem asg_res {σ : L2.St} {H : Hp} {w : Wl} {i : Nat} {D : Ends} (A : At fr σ H w) {v : V} {H1 : Hp} (h : ∃ r w1, At fr σ H1 w1 ∧ Nx σ H w H1 w1 ∧ RelR σ H H1 w1 v r ∧ ResS fr W D (match slotOf r with
    | some sl => if i < w1.ρ.length then .ok .nx ⟨w1.ρ.set i (some sl), w1.S⟩ else .no
    | none => .no)) : D.nx (σ.set i (some v)) H1 := by
  obtain ⟨r, w1, A1, N1, R1, h1⟩ := h
  cases e : slotOf r with
  | none => rw [e] at h1; exact h1.elim
  | some sl =>
    rw [e] at h1
    by_cases hi : i < w1.ρ.length
    · have h2 : ResS fr W D (if i < w1.ρ.length then .ok .nx ⟨w1.ρ.set i (some sl), w1.S⟩ else .no) := h1
      rw [if_pos hi] at h2
      exact h2 _ H1 (w1.put i (some sl)) rfl rfl (A1.assign (fun a ha => A.new0 ha) hi R1 e)
    · have h2 : ResS fr W D (if i < w1.ρ.length then .ok .nx ⟨w1.ρ.set i (some sl), w1.S⟩ else .no) := h1
      rw [if_neg hi] at h2
      exact h2.elim
theorem ps_setG {C : Cs} {x : Str} {i : Nat} {p2 : Pos} (c : CtxOk C X fr W Φ) (hN : C.N[i]? = some x) (hs : C.st x = true) (he : PE X e (LE fr W Φ m)) (hw : swapsWith e (some (.Name x p2)) pos.line X.env = Pure.pure false) :
    PS X (.Assign [.Name x p2] e pos) (LS fr W Φ (mAsg i m)) := by
  obtain ⟨h1, h2⟩ := c.st x hs
  refine PS.imp (ps_set c.nd (by rw [c.N]; exact hN) h1 he hw h2) fun D σ H ⟨w, A, r⟩ => ⟨w, A, (ResS.bind (Rel := RelR σ) r).imp ?_⟩
  exact fun v H1 h => asg_res A h
end
end DL
end

section
set_option Elab.async false
set_option linter.all false
set_option maxRecDepth 100000
set_option autoImplicit false
set_option maxHeartbeats 1000000
/-! DL7: targets; lists of one's own that grow, shrink, change; bags. -/
namespace DL
open PySem PySem.Spec PyProof.Rows L2

inductive Tg where
  | name (i : Nat)
  | tup (l : List Tg)
mutual
def bindT : Tg → D → List (Option Slot) → Option (List (Option Slot))
  | .name i, d, ρ => if i < ρ.length then some (ρ.set i (some (.val d))) else none
  | .tup ts, .tup ds, ρ => bindTs ts ds ρ
  | _, _, _ => none
def bindTs : List Tg → List D → List (Option Slot) → Option (List (Option Slot))
  | [], [], ρ => some ρ
  | t :: ts, d :: ds, ρ => match bindT t d ρ with
    | some ρ' => bindTs ts ds ρ'
    | none => none
  | _, _, _ => none
end
mutual
def Tg.ix : Tg → List Nat
  | .name i => [i]
  | .tup l => ixs l
def ixs : List Tg → List Nat
  | [] => []
  | t :: ts => t.ix ++ ixs ts
end
/-- slots that are stored elsewhere only -/
def SameBut (l : List Nat) (σ σ' : L2.St) : Prop := (∀ j, j ∉ l → σ'[j]? = σ[j]?) ∧ σ'.length = σ.length
def LG (fr : Fr) (t : Tg) : TG := fun v σ H Q => ∃ w d, At fr σ H w ∧ Rep w.F w.B v d ∧ match bindT t d w.ρ with
  | some ρ' => ∀ σ', At fr σ' H { w with ρ := ρ' } → SameBut t.ix σ σ' → Q σ' H
  | none => False
def LGs (fr : Fr) (ts : List Tg) : TGs := fun vs σ H Q => ∃ w ds, At fr σ H w ∧ Reps w.F w.B vs ds ∧ match bindTs ts ds w.ρ with
  | some ρ' => ∀ σ', At fr σ' H { w with ρ := ρ' } → SameBut (ixs ts) σ σ' → Q σ' H
  | none => False
theorem PG.imp {X : Cx} {e : Expr} {t t' : TG} (h : PG X e t) (hi : ∀ v σ H Q, t' v σ H Q → t v σ H Q) : PG X e t' := ⟨fun pins s σ H v u Q I r q => h.run pins s σ H v u Q I r (hi v σ H Q q)⟩
theorem PGs.imp {X : Cx} {e : List Expr} {t t' : TGs} (h : PGs X e t) (hi : ∀ v σ H Q, t' v σ H Q → t v σ H Q) : PGs X e t' := ⟨fun pins s σ H v u Q I r q => h.run pins s σ H v u Q I r (hi v σ H Q q)⟩
section
variable {C : Cs} {X : Cx} {fr : Fr} {W : WX} {Φ : PhiT} {pos p2 : Pos} {e : Expr} {es : List Expr} {m : M R} {t : Tg} {ts : List Tg}
theorem pg_nameG {x : Str} {i : Nat} (c : CtxOk C X fr W Φ) (hN : C.N[i]? = some x) (hs : C.st x = true) : PG X (.Name x pos) (LG fr (.name i)) := by
  obtain ⟨h1, h2⟩ := c.st x hs
  refine PG.imp (pg_name c.nd (by rw [c.N]; exact hN) h1 h2) fun v σ H Q ⟨w, d, A, R, h⟩ => ?_
  have h' : match (if i < w.ρ.length then some (w.ρ.set i (some (.val d))) else none : Option (List (Option Slot))) with
    | some ρ' => ∀ σ', At fr σ' H { w with ρ := ρ' } → SameBut [i] σ σ' → Q σ' H
    | none => False := h
  by_cases hi : i < w.ρ.length
  · rw [if_pos hi] at h'
    refine h' (σ.set i (some v)) (A.assign (Hs := H) (r := .val d) (fun a ha => A.new0 ha) hi R rfl) ⟨fun j hj => ?_, List.length_set⟩
    rw [List.getElem?_set_ne (fun z => hj (by simp [z]))]
  · rw [if_neg hi] at h'; exact h'.elim
theorem pgs_nilG : PGs X [] (LGs fr []) := by
  refine PGs.imp pgs_nil fun vs σ H Q ⟨w, ds, A, R, h⟩ => ?_
  cases ds with
  | cons d r => exact h.elim
  | nil => cases R; exact ⟨rfl, h σ A ⟨fun _ _ => rfl, rfl⟩⟩
theorem pgs_consG (h1 : PG X e (LG fr t)) (h2 : PGs X es (LGs fr ts)) (hs : (assignEach (e :: es) X.env).map (·.2) = assign e X.env :: (assignEach es X.env).map (·.2)) : PGs X (e :: es) (LGs fr (t :: ts)) := by
  refine PGs.imp (pgs_cons h1 h2 hs) fun vs σ H Q ⟨w, ds, A, R, h⟩ => ?_
  cases R with
  | nil => exact h.elim
  | @cons v d vr dr R1 R2 =>
    refine ⟨v, vr, rfl, w, d, A, R1, ?_⟩
    have h' : match (match bindT t d w.ρ with
      | some ρ' => bindTs ts dr ρ'
      | none => none) with
      | some ρ' => ∀ σ', At fr σ' H { w with ρ := ρ' } → SameBut (t.ix ++ ixs ts) σ σ' → Q σ' H
      | none => False := h
    cases e1 : bindT t d w.ρ with
    | none => rw [e1] at h'; exact h'.elim
    | some ρ1 =>
      rw [e1] at h'
      intro σ1 A1 sb1
      refine ⟨{ w with ρ := ρ1 }, dr, A1, R2, ?_⟩
      show match bindTs ts dr ρ1 with
        | some ρ' => ∀ σ', At fr σ' H { w with ρ := ρ' } → SameBut (ixs ts) σ1 σ' → Q σ' H
        | none => False
      have h2 : match bindTs ts dr ρ1 with
        | some ρ' => ∀ σ', At fr σ' H { w with ρ := ρ' } → SameBut (t.ix ++ ixs ts) σ σ' → Q σ' H
        | none => False := h'
      cases e2 : bindTs ts dr ρ1 with
      | none => rw [e2] at h2; exact h2.elim
      | some ρ2 =>
        rw [e2] at h2
        intro σ2 A2 sb2
        refine h2 σ2 A2 ⟨fun j hj => ?_, sb2.2.trans sb1.2⟩
        rw [List.mem_append, not_or] at hj
        rw [sb2.1 j hj.2, sb1.1 j hj.1]
theorem pg_tupG {k : Nat} (c : CtxOk C X fr W Φ) (h : PGs X es (LGs fr ts)) (hl : ts.length = es.length) (hn : (assignEach es X.env).length = es.length) (hst : (assignEach es X.env).findIdx? (·.1) = none) : PG X (.Tuple es k pos) (LG fr (.tup ts)) := by
  refine PG.imp (pg_tup c.calm h hn hst) fun v σ H Q ⟨w, d, A, R, h⟩ => ?_
  cases d with
  | tup ds =>
    cases R with
    | @tup a xs _ ha ra =>
      refine ⟨a, xs, rfl, .inl (.inl (A.good.sub _ _ ha)), ?_, w, ds, A, ra, h⟩
      have lens : ∀ {ts : List Tg} {ds : List D} {ρ ρ' : List (Option Slot)}, bindTs ts ds ρ = some ρ' → ts.length = ds.length := by
        intro ts
        induction ts with
        | nil => intro ds ρ ρ' e; cases ds with
          | nil => rfl
          | cons d r => cases e
        | cons t ts ih =>
          intro ds ρ ρ' e
          cases ds with
          | nil => cases e
          | cons d r =>
            have e' : (match bindT t d ρ with
              | some ρ' => bindTs ts r ρ'
              | none => none) = some ρ' := e
            cases e1 : bindT t d ρ with
            | none => rw [e1] at e'; cases e'
            | some ρ1 => rw [e1] at e'; simp [ih e']
      have h' : match bindTs ts ds w.ρ with
        | some ρ' => ∀ σ', At fr σ' H { w with ρ := ρ' } → SameBut (ixs ts) σ σ' → Q σ' H
        | none => False := h
      cases e1 : bindTs ts ds w.ρ with
      | none => rw [e1] at h'; exact h'.elim
      | some ρ1 => rw [ra.length, ← lens e1, hl]
  | _ => exact h.elim
/-- target = value -/
def mAsgT (t : Tg) (m : M R) : M Fl := fun Φ s => (mFrz m Φ s).bind fun d s1 => match bindT t d s1.ρ with
  | some ρ' => .ok .nx { s1 with ρ := ρ' }
  | none => .no
theorem ps_asgT {tg : Expr} (he : PE X e (LE fr W Φ m)) (hg : PG X tg (LG fr t)) (hs : swapsWithSole [tg] e pos.line X.env = Pure.pure false) (hw : swappedStores [tg] e X.env = Pure.pure none)
    (h1 : (assignEach [tg] X.env).map (·.2) = [assign tg X.env]) : PS X (.Assign [tg] e pos) (LS fr W Φ (mAsgT t m)) := by
  refine PS.imp (ps_asg (pe_frz he) hg hs hw h1) fun D σ H ⟨w, A, r⟩ => ⟨w, A, (ResS.bind (Rel := RelV') r).imp ?_⟩
  rintro v H1 ⟨d, w1, A1, N1, R1, h1⟩
  refine ⟨w1, d, A1, R1, ?_⟩
  have h2 : ResS fr W D (match bindT t d w1.ρ with
    | some ρ' => .ok .nx ⟨ρ', w1.S⟩
    | none => .no) := h1
  cases e1 : bindT t d w1.ρ with
  | none => rw [e1] at h2; exact h2.elim
  | some ρ1 => rw [e1] at h2; exact fun σ' A' _ => h2 σ' H1 { w1 with ρ := ρ1 } rfl rfl A'
end
/-! ### own lists change -/
theorem At.mut {fr : Fr} {σ : L2.St} {H : Hp} {w : Wl} (A : At fr σ H w) {i : Nat} {c c' : Cont} {a : Addr} {o : HO} (h : w.ρ[i]? = some (some (.own c))) (ha : σ[i]? = some (some (.ref a)))
    (hr : CRep (upd H a o) w.F w.B a c') : At fr σ (upd H a o) (w.put i (some (.own c'))) := by
  obtain ⟨b, h1, h2, h3, h4, h5⟩ := A.slots.own i c h
  rw [ha] at h1
  cases h1
  have hi : i < w.ρ.length := (List.getElem?_eq_some_iff.mp h).1
  have back : ∀ {j : Nat} {x : Addr}, OwnAt σ (w.ρ.set i (some (.own c'))) j x → OwnAt σ w.ρ j x := fun {j x} ⟨k, e1, e2⟩ => by
    rcases put_at e1 with ⟨e, _, _⟩ | ⟨_, e⟩
    · subst e; exact ⟨c, h, e2⟩
    · exact ⟨k, e, e2⟩
  have ne : ∀ {x : Addr} {u : HO}, w.F x = some u → x ≠ a := fun q z => by rw [z, h3] at q; cases q
  refine ⟨⟨fun x u q => by rw [upd_ne (ne q)]; exact A.good.sub x u q, A.good.fn, (by obtain ⟨o0, z1, z2⟩ := h5; exact tabs_upd A.good.tab z1 z2.nx), A.good.nd, A.good.fb, ?_⟩, ⟨fun x u q hn nb no => ?_, A.stp.sub, A.stp.bags, A.stp.fz, fun x u q => ?_⟩, ⟨fun j d q => ?_, fun j k q => ?_, fun j k x q1 q2 => A.slots.inj j k x (back q1) (back q2), by show (w.ρ.set i _).length = _; rw [List.length_set]; exact A.slots.len⟩⟩
  · have key : ∀ {B : List Addr} {S : Store}, a ∉ B → Paired (fun a ns => H a = some (.lst ((ns : List Int).map V.int))) B S → Paired (fun x ns => upd H a o x = some (.lst ((ns : List Int).map V.int))) B S := by
      intro B S hb q
      induction q with
      | nil => exact .nil
      | @cons x ns l1 l2 q _ ih =>
        rw [List.mem_cons, not_or] at hb
        exact .cons (by rw [upd_ne (Ne.symm hb.1)]; exact q) (ih hb.2)
    exact key h4 A.good.bag
  · have : x ≠ a := fun z => by rw [z, h2] at q; cases q
    rw [upd_ne this]; exact A.stp.keep x u q hn nb no
  · obtain ⟨o', z⟩ := A.stp.there x u q
    by_cases e : x = a
    · exact ⟨o, by rw [e]; exact upd_same⟩
    · exact ⟨o', by rw [upd_ne e]; exact z⟩
  · rcases put_at q with ⟨_, e, _⟩ | ⟨_, q⟩
    · cases e
    · exact A.slots.val j d q
  · rcases put_at q with ⟨e1, e2, _⟩ | ⟨ej, q⟩
    · subst e1; cases e2
      exact ⟨a, ha, h2, h3, h4, hr⟩
    · obtain ⟨x, e1, e2, e3, e4, e5⟩ := A.slots.own j k q
      have xa : x ≠ a := fun z => ej (A.slots.inj j i a ⟨k, q, z ▸ e1⟩ ⟨c, h, ha⟩)
      refine ⟨x, e1, e2, e3, e4, ?_⟩
      obtain ⟨u, z1, z2⟩ := e5; exact ⟨u, by rw [upd_ne xa]; exact z1, z2⟩
def lstAt (ρ : List (Option Slot)) (i : Nat) : Option (List D) := match ρ[i]? with
  | some (some (.own (.lst l))) => some l
  | _ => none
theorem lstAt_eq {ρ : List (Option Slot)} {i : Nat} {l : List D} (h : lstAt ρ i = some l) : ρ[i]? = some (some (.own (.lst l))) := by
  unfold lstAt at h
  split at h
  · rename_i e; cases h; exact e
  · cases h
/-- x.append(e) -/
def mAppend (i : Nat) (m : M R) : M Fl := fun Φ s => match lstAt s.ρ i with
  | none => .no
  | some _ => (mFrz m Φ s).bind fun d s1 => match lstAt s1.ρ i with
    | some l => if l.length < lim then .ok .nx { s1 with ρ := s1.ρ.set i (some (.own (.lst (l ++ [d])))) } else .no
    | none => .no
section
variable {C : Cs} {X : Cx} {fr : Fr} {W : WX} {Φ : PhiT} {pos cpos apos p2 : Pos} {e : Expr} {m : M R}
theorem lim_lt' {n : Nat} (h : n < lim) : n < sizeLine := lim_lt (Nat.le_of_lt h)
theorem ps_appendG {x : Str} {i : Nat} (c : CtxOk C X fr W Φ) (hN : C.N[i]? = some x) (hv : Vis C.sc x) (hd : (x == ("__debug__" : Str)) = false) (hcd : (x == ("__classdict__" : Str)) = false) (he : PE X e (LE fr W Φ m))
    (hst : starEach [e] X.env = (false, eval e X.env) :: starEach [] X.env) (hbase : attributeBase (.Name x p2) "append" X.env (eval (.Name x p2) X.env) = eval (.Name x p2) X.env)
    (hfew : ((backTo cpos (starEach [e] X.env)).all (fun x => !x.1) && (backToKw cpos (keywordEach [] X.env)).all (fun x => x.1.isSome) && decide ([e].length + ([] : List Keyword).length + (if ([] : List Keyword).isEmpty then 0 else 1) < 30)) = true)
    (hline : (apos.endLine == cpos.line) = true) (hs : swapsWith (.Call (.Attribute (.Name x p2) "append" apos) [e] [] cpos) none pos.line X.env = Pure.pure false) :
    PS X (.Expr (.Call (.Attribute (.Name x p2) "append" apos) [e] [] cpos) pos) (LS fr W Φ (mAppend i m)) := by
  have pv : PE X (.Name x p2) (tVar i) := pe_var (by rw [c.N]; exact hN) (by rw [c.sc]; exact hv) hd hcd
  refine PS.imp (ps_expr (pe_bm PySem.F.plainAttrs_list PySem.F.slot_list_append PySem.F.type_list_append mt_append pv (pa_cons (pe_frz he) pa_nil hst) hbase hfew hline hst (by rfl)) hs) fun D σ H ⟨w, A, r⟩ => ?_
  have r' : ResS fr W D (match lstAt w.ρ i with
    | none => .no
    | some _ => (mFrz m Φ ⟨w.ρ, w.S⟩).bind fun d s1 => match lstAt s1.ρ i with
      | some l => if l.length < lim then .ok .nx { s1 with ρ := s1.ρ.set i (some (.own (.lst (l ++ [d])))) } else .no
      | none => .no) := r
  cases e0 : lstAt w.ρ i with
  | none => rw [e0] at r'; exact r'.elim
  | some l0 =>
    rw [e0] at r'
    obtain ⟨a, h1, h2, h3, h4, o0, h5, h6⟩ := A.slots.own i _ (lstAt_eq e0)
    cases h6 with | @lst xs0 _ h6 =>
    refine ⟨.ref a, h1, .inl ⟨rfl, xs0, .inl (.inl h5)⟩, w, A, (ResS.bind (Rel := RelV') r').imp ?_⟩
    rintro v H1 ⟨d, w1, A1, N1, R1, h1'⟩
    have h2' : ResS fr W D (match lstAt w1.ρ i with
      | some l => if l.length < lim then .ok .nx ⟨w1.ρ.set i (some (.own (.lst (l ++ [d])))), w1.S⟩ else .no
      | none => .no) := h1'
    cases e1 : lstAt w1.ρ i with
    | none => rw [e1] at h2'; exact h2'.elim
    | some l =>
      rw [e1] at h2'
      by_cases hl : l.length < lim
      · have h3' : ResS fr W D (if l.length < lim then .ok .nx ⟨w1.ρ.set i (some (.own (.lst (l ++ [d])))), w1.S⟩ else .no) := h2'
        rw [if_pos hl] at h3'
        obtain ⟨b, g1, g2, g3, g4, o1, g5, g6⟩ := A1.slots.own i _ (lstAt_eq e1)
        cases g6 with | @lst xs _ g6 =>
        rw [h1] at g1
        cases g1
        refine ⟨a, xs, v, rfl, rfl, g5, by rw [g6.length]; exact lim_lt' hl, ?_⟩
        exact h3' σ _ (w1.put i (some (.own (.lst (l ++ [d]))))) rfl rfl (A1.mut (c' := .lst (l ++ [d])) (lstAt_eq e1) h1 ⟨_, upd_same, .lst (g6.append (.cons R1 .nil))⟩)
      · have h3' : ResS fr W D (if l.length < lim then .ok .nx ⟨w1.ρ.set i (some (.own (.lst (l ++ [d])))), w1.S⟩ else .no) := h2'
        rw [if_neg hl] at h3'; exact h3'.elim
end
end DL
end

section
set_option Elab.async false
set_option linter.all false
set_option maxRecDepth 100000
set_option autoImplicit false
set_option maxHeartbeats 1000000
/-! DL8: what is walked; for, while. -/
namespace DL
open PySem PySem.Spec PyProof.Rows L2

/-- the frame, as if it began here -/
def Fr.at (fr : Fr) (w : Wl) : Fr := ⟨fr.mg, fr.T, fr.H0, w.F, w.B⟩
section
variable {fr : Fr} {σ σ0 : L2.St} {H H0' : Hp} {w w0 : Wl}
theorem At.narrow (A : At fr σ H w) : At (fr.at w) σ H w := by
  refine ⟨A.good, ⟨fun a o h hn hb ho => A.stp.keep a o h hn (fun z => hb ?_) ho, fun _ _ h => h, ⟨[], by show w.B = w.B ++ []; simp, by simp⟩, fun _ _ h => .inl h, A.stp.there⟩, A.slots⟩
  obtain ⟨C, e, _⟩ := A.stp.bags
  show a ∈ w.B
  rw [e]; exact List.mem_append_left _ z
theorem At.widen (A0 : At fr σ0 H0' w0) (A : At (fr.at w0) σ H w) : At fr σ H w := by
  refine ⟨A.good, ⟨fun a o h hn hb ho => A.stp.keep a o h hn (fun z => ?_) ho, fun a o h => A.stp.sub a o (A0.stp.sub a o h), ?_, fun a o h => ?_, A.stp.there⟩, A.slots⟩
  · obtain ⟨C, e, hC⟩ := A0.stp.bags
    have z' : a ∈ w0.B := z
    rw [e] at z'
    rcases List.mem_append.mp z' with q | q
    · exact hb q
    · rw [hC a q] at h; cases h
  · obtain ⟨C, e, hC⟩ := A0.stp.bags
    obtain ⟨C', e', hC'⟩ := A.stp.bags
    refine ⟨C ++ C', by rw [e']; show w0.B ++ C' = _; rw [e, List.append_assoc], fun c hc => ?_⟩
    rcases List.mem_append.mp hc with z | z
    · exact hC c z
    · exact hC' c z
  · rcases A.stp.fz a o h with z | z | z
    · exact A0.stp.fz a o z
    · exact .inr (.inl z)
    · exact z.elim
theorem ResS.widen {W : WX} {D : Ends} {o : Out Fl} (A0 : At fr σ0 H0' w0) (h : ResS fr W D o) : ResS (fr.at w0) W D o := by
  cases o with
  | no => exact h
  | ex x s => exact fun c d σ' H' w' e1 e2 A xo => h c d σ' H' w' e1 e2 (A0.widen A) xo
  | ok f s =>
    cases f with
    | nx => exact fun σ' H' w' a b c => h σ' H' w' a b (A0.widen c)
    | brk => exact fun σ' H' w' a b c => h σ' H' w' a b (A0.widen c)
    | ct => exact fun σ' H' w' a b c => h σ' H' w' a b (A0.widen c)
    | ret r => exact fun v σ' H' w' a b c d => h v σ' H' w' a b (A0.widen c) d
end
/-- a body, whatever world the frame is said to have begun in -/
def LSx (fr : Fr) (W : WX) (Φ : PhiT) (m : M Fl) : TS := fun D σ H => ∃ F0 B0, LS ⟨fr.mg, fr.T, fr.H0, F0, B0⟩ W Φ m D σ H
theorem pss_any {X : Cx} {fr : Fr} {W : WX} {Φ : PhiT} {m : M Fl} {b : List Stmt} (h : ∀ F0 B0, PSs X b (LS ⟨fr.mg, fr.T, fr.H0, F0, B0⟩ W Φ m)) : PSs X b (LSx fr W Φ m) := ⟨fun pins s σ H D I ⟨F0, B0, q⟩ => (h F0 B0).run pins s σ H D I q⟩

/-! ### what is walked -/
structure ItOk (fr : Fr) (w : Wl) (ds : List D) (J : It) : Prop where
  ex : ∃ G Y, Walk J ds.length G Y ∧ (∀ σ H w1, At (fr.at w) σ H w1 → G H) ∧
    ∀ i H x H' σ w1, i < ds.length → At (fr.at w) σ H w1 → Y i H x H' → ∃ w2 d, At (fr.at w) σ H' w2 ∧ Nx σ H w1 H' w2 ∧ w2.ρ = w1.ρ ∧ w2.S = w1.S ∧ ds[i]? = some d ∧ Rep w2.F w2.B x d
def RelI (fr : Fr) : Rl (List D) It := fun _ _ w J ds => ItOk fr w ds J
theorem antiI {fr : Fr} : Anti (RelI fr) := fun _ _ _ _ _ _ _ h => h
abbrev LI (fr : Fr) (W : WX) (Φ : PhiT) (m : M (List D)) : TI := fun σ H R => LiftG fr W Φ (RelI fr) m σ H R
theorem PI.imp {X : Cx} {tg e : Expr} {t t' : TI} (h : PI X tg e t) (hi : ∀ σ H Q, t' σ H Q → t σ H Q) : PI X tg e t' := ⟨fun pins s σ H Q I q => h.run pins s σ H Q I (hi σ H Q q)⟩
theorem PI.or {X : Cx} {tg e : Expr} {t t' : TI} (h : PI X tg e t) (h' : PI X tg e t') : PI X tg e (fun σ H Q => t σ H Q ∨ t' σ H Q) := ⟨fun pins s σ H Q I q => q.elim (h.run pins s σ H Q I) (h'.run pins s σ H Q I)⟩
def mSeqI (m : M R) : M (List D) := fun Φ s => (mFrz m Φ s).bind fun d s1 => match seqOf d with
  | some l => .ok l s1
  | none => .no
def rangeD (lo : Int) (n : Nat) : List D := (List.range n).map fun (i : Nat) => D.int (lo + i)
def mRange1 (m : M (List D)) : M (List D) := fun Φ s => (m Φ s).bind fun ds s1 => match ds with
  | [.int j] => if -(2 ^ 62) ≤ j ∧ j < 2 ^ 62 then .ok (rangeD 0 j.toNat) s1 else .no
  | _ => .no
def mRange2 (m : M (List D)) : M (List D) := fun Φ s => (m Φ s).bind fun ds s1 => match ds with
  | [.int i, .int j] => if -(2 ^ 62) ≤ i ∧ i < 2 ^ 62 ∧ -(2 ^ 62) ≤ j ∧ j < 2 ^ 62 then .ok (rangeD i (j - i).toNat) s1 else .no
  | _ => .no
section
variable {C : Cs} {X : Cx} {fr : Fr} {W : WX} {Φ : PhiT} {pos p : Pos} {e a b tg : Expr} {m : M R} {ms : M (List D)}
theorem itOk_list {σ : L2.St} {H : Hp} {w : Wl} {K : PySem.W.Frag} {x : Addr} {xs : List V} {ds : List D} (h : w.F x = some (.lst xs)) (r : Reps w.F w.B xs ds) : ItOk fr w ds (Itl K x) := by
  refine ⟨_, _, r.length ▸ walk_list (xs := xs), fun σ H w1 A => .inl (.inl (A.good.sub _ _ (A.stp.sub _ _ h))), fun i H y H' σ w1 hi A q => ?_⟩
  obtain ⟨rfl, q⟩ := q
  obtain ⟨d, h1, h2⟩ := r.get' q
  refine ⟨w1, d, A, .refl, rfl, rfl, h1, h2.mono A.stp.sub ?_⟩
  obtain ⟨Cx, e, _⟩ := A.stp.bags
  intro n z hz
  rw [e]
  show (w.B ++ Cx)[n]? = some z
  rw [List.getElem?_append_left (List.getElem?_eq_some_iff.mp hz).1]
  exact hz
theorem itOk_tup {σ : L2.St} {H : Hp} {w : Wl} {K : PySem.W.Frag} {x : Addr} {xs : List V} {ds : List D} (h : w.F x = some (.tup xs)) (r : Reps w.F w.B xs ds) : ItOk fr w ds (Itt K x) := by
  refine ⟨_, _, r.length ▸ walk_tup (xs := xs), fun σ H w1 A => .inl (.inl (A.good.sub _ _ (A.stp.sub _ _ h))), fun i H y H' σ w1 hi A q => ?_⟩
  obtain ⟨rfl, q⟩ := q
  obtain ⟨d, h1, h2⟩ := r.get' q
  refine ⟨w1, d, A, .refl, rfl, rfl, h1, h2.mono A.stp.sub ?_⟩
  obtain ⟨Cx, e, _⟩ := A.stp.bags
  intro n z hz
  rw [e]
  show (w.B ++ Cx)[n]? = some z
  rw [List.getElem?_append_left (List.getElem?_eq_some_iff.mp hz).1]
  exact hz
theorem rangeD_len (lo : Int) (n : Nat) : (rangeD lo n).length = n := by simp [rangeD]
theorem rangeD_at {lo : Int} {n i : Nat} (h : i < n) : (rangeD lo n)[i]? = some (.int (lo + i)) := by
  unfold rangeD
  rw [List.getElem?_map, List.getElem?_range h]
  rfl
theorem itOk_range {w : Wl} {lo : Int} {n : Nat} : ItOk fr w (rangeD lo n) (Itr lo n) := by
  refine ⟨fun _ => True, YFn fun i => .int (lo + i), by rw [rangeD_len]; exact walk_range, fun _ _ _ _ => trivial, fun i H y H' σ w1 hi A q => ?_⟩
  obtain ⟨rfl, rfl⟩ := q
  rw [rangeD_len] at hi
  exact ⟨w1, _, A, .refl, rfl, rfl, rangeD_at hi, .int _⟩
theorem pi_seqG (h : PE X e (LE fr W Φ m)) : PI X tg e (LI fr W Φ (mSeqI m)) := by
  refine PI.imp (PI.or (pi_list (pe_frz h)) (pi_tup (pe_frz h))) fun σ H R ⟨w, A, r⟩ => ?_
  have r' : ResG fr W σ H w (RelI fr) R ((mFrz m Φ ⟨w.ρ, w.S⟩).bind fun d s1 => match seqOf d with
    | some l => .ok l s1
    | none => .no) := r
  have key : ∀ (d : D) (s : Sta), mFrz m Φ ⟨w.ρ, w.S⟩ = .ok d s → (∃ l, d = .lst l) ∨ (∃ l, d = .tup l) := fun d s eo => by
    rw [eo] at r'
    cases d <;> first | exact .inl ⟨_, rfl⟩ | exact .inr ⟨_, rfl⟩ | exact r'.elim
  have r1 := ResG.bind (Rel' := RelV') antiI r'
  have e0 : ∃ o, mFrz m Φ ⟨w.ρ, w.S⟩ = o := ⟨_, rfl⟩
  obtain ⟨o, eo⟩ := e0
  cases o with
  | no => rw [eo] at r'; exact r'.elim
  | ex x s => exact .inl ⟨w, A, by rw [eo] at r' ⊢; exact r'⟩
  | ok d s =>
    rcases key d s eo with ⟨l, rfl⟩ | ⟨l, rfl⟩
    · refine .inl ⟨w, A, ?_⟩
      rw [eo] at r1 ⊢
      intro v H1 w1 e1 e2 A1 N1 R1
      obtain ⟨d', w2, A2, N2, R2, h2⟩ := r1 v H1 w1 e1 e2 A1 N1 R1
      cases R1 with
      | @lst a xs _ ha ra =>
        have h3 : ResG fr W σ H w (RelI fr) R (.ok l s) := by rw [eo] at r'; exact r'
        exact ⟨a, rfl, ⟨xs, .inl (.inl (A1.good.sub _ _ ha))⟩, h3 _ H1 w1 e1 e2 A1 N1 (itOk_list (σ := σ) (H := H) ha ra)⟩
    · refine .inr ⟨w, A, ?_⟩
      rw [eo] at r1 ⊢
      intro v H1 w1 e1 e2 A1 N1 R1
      cases R1 with
      | @tup a xs _ ha ra =>
        have h3 : ResG fr W σ H w (RelI fr) R (.ok l s) := by rw [eo] at r'; exact r'
        exact ⟨a, rfl, ⟨xs, .inl (.inl (A1.good.sub _ _ ha))⟩, h3 _ H1 w1 e1 e2 A1 N1 (itOk_tup (σ := σ) (H := H) ha ra)⟩
theorem pi_range1G (c : CtxOk C X fr W Φ) (hg : C.sc.names.lookup ("range" : Str) = some .globalImplicit) (ha : PA X [a] (LA fr W Φ ms)) (hs : starEach [a] X.env = [(false, eval a X.env)]) :
    PI X tg (.Call (.Name "range" p) [a] [] pos) (LI fr W Φ (mRange1 ms)) := by
  refine PI.imp (pi_range1 (show X.env.scope.names.lookup ("range" : Str) = _ by rw [c.sc]; exact hg) (c.free _ (by decide)) ha hs) fun σ H R ⟨w, A, r⟩ => ⟨w, A, (ResG.bind (Rel' := RelA) antiI r).imp ?_⟩
  rintro vs H1 ⟨ds, w1, A1, N1, R1, h1⟩
  cases R1 with
  | nil => exact h1.elim
  | cons q1 q2 =>
    rename_i v d vs ds
    cases q2 with
    | cons _ _ => cases d <;> exact h1.elim
    | nil =>
      cases q1 with
      | int j =>
        have h2 : ResG fr W σ H1 w1 (RelI fr) R (if -(2 ^ 62) ≤ j ∧ j < 2 ^ 62 then .ok (rangeD 0 j.toNat) ⟨w1.ρ, w1.S⟩ else .no) := h1
        by_cases hj : -(2 ^ 62) ≤ j ∧ j < 2 ^ 62
        · rw [if_pos hj] at h2
          exact ⟨j, rfl, hj.1, hj.2, h2.here A1 itOk_range⟩
        · rw [if_neg hj] at h2; exact h2.elim
      | _ => exact h1.elim
theorem pi_range2G (c : CtxOk C X fr W Φ) (hg : C.sc.names.lookup ("range" : Str) = some .globalImplicit) (ha : PA X [a, b] (LA fr W Φ ms)) (hs : starEach [a, b] X.env = [(false, eval a X.env), (false, eval b X.env)]) (hs2 : starEach [b] X.env = [(false, eval b X.env)]) :
    PI X tg (.Call (.Name "range" p) [a, b] [] pos) (LI fr W Φ (mRange2 ms)) := by
  refine PI.imp (pi_range2 (show X.env.scope.names.lookup ("range" : Str) = _ by rw [c.sc]; exact hg) (c.free _ (by decide)) ha hs hs2) fun σ H R ⟨w, A, r⟩ => ⟨w, A, (ResG.bind (Rel' := RelA) antiI r).imp ?_⟩
  rintro vs H1 ⟨ds, w1, A1, N1, R1, h1⟩
  cases R1 with
  | nil => exact h1.elim
  | cons q1 q2 =>
    rename_i v d vs ds
    cases q2 with
    | nil => cases d <;> exact h1.elim
    | cons q2 q3 =>
      rename_i v2 d2 vs2 ds2
      cases q3 with
      | cons _ _ => cases d <;> cases d2 <;> exact h1.elim
      | nil =>
        cases q1 with
        | int i =>
          cases q2 with
          | int j =>
            have h2 : ResG fr W σ H1 w1 (RelI fr) R (if -(2 ^ 62) ≤ i ∧ i < 2 ^ 62 ∧ -(2 ^ 62) ≤ j ∧ j < 2 ^ 62 then .ok (rangeD i (j - i).toNat) ⟨w1.ρ, w1.S⟩ else .no) := h1
            by_cases hj : -(2 ^ 62) ≤ i ∧ i < 2 ^ 62 ∧ -(2 ^ 62) ≤ j ∧ j < 2 ^ 62
            · rw [if_pos hj] at h2
              exact ⟨i, j, rfl, hj, h2.here A1 itOk_range⟩
            · rw [if_neg hj] at h2; exact h2.elim
          | _ => exact h1.elim
        | _ => cases d2 <;> exact h1.elim
end
/-! ### for -/
def forLoop (t : Tg) (body : M Fl) (Φ : PhiT) : List D → Sta → Out Fl
  | [], s => .ok .nx s
  | d :: ds, s => match bindT t d s.ρ with
    | none => .no
    | some ρ' => (body Φ { s with ρ := ρ' }).bind fun f s1 => match f with
      | .nx => forLoop t body Φ ds s1
      | .ct => forLoop t body Φ ds s1
      | .brk => .ok .nx s1
      | .ret r => .ok (.ret r) s1
def mFor (it : M (List D)) (t : Tg) (body : M Fl) : M Fl := fun Φ s => (it Φ s).bind fun ds s1 => forLoop t body Φ ds s1
section
variable {X : Cx} {fr : Fr} {W : WX} {Φ : PhiT} {pos : Pos} {iter tg : Expr} {t : Tg} {mi : M (List D)} {mb : M Fl} {body : List Stmt}
theorem pg_any {F0 : Hp} {B0 : List Addr} {fr : Fr} (h : ∀ F0 B0, PG X tg (LG ⟨fr.mg, fr.T, fr.H0, F0, B0⟩ t)) : PG X tg (fun v σ H Q => ∃ F0 B0, LG ⟨fr.mg, fr.T, fr.H0, F0, B0⟩ t v σ H Q) := ⟨fun pins s σ H v u Q I r ⟨F0, B0, q⟩ => (h F0 B0).run pins s σ H v u Q I r q⟩
theorem ps_forG (hp : PassesOwn (model X.prog X.w) X.A X.env X.xe) (hc : X.calm = true) (hi : PI X tg iter (LI fr W Φ mi)) (hg : ∀ F0 B0, PG X tg (LG ⟨fr.mg, fr.T, fr.H0, F0, B0⟩ t)) (hb : ∀ F0 B0, PSs X body (LS ⟨fr.mg, fr.T, fr.H0, F0, B0⟩ W Φ mb))
    (hs : ∀ x, foldedSetIterable iter X.env x = Pure.pure x) : PS X (.For tg iter body [] pos) (LS fr W Φ (mFor mi t mb)) := by
  refine PS.imp (ps_for hp hc hi (pg_any (F0 := fr.F0) (B0 := fr.B0) hg) (pss_any hb) hs) fun D σ H ⟨w, A, r⟩ => ⟨w, A, (ResS.bind (Rel := RelI fr) r).imp ?_⟩
  rintro J H1 ⟨ds, w1, A1, N1, ⟨G, Y, wk, hG, hY⟩, h1⟩
  refine for_it wk (g := fun v σ H Q => ∃ F0 B0, LG ⟨fr.mg, fr.T, fr.H0, F0, B0⟩ t v σ H Q) (tb := LSx fr W Φ mb) (D := D) (fun i σ' H' => ∃ w', At (fr.at w1) σ' H' w' ∧ ResS fr W D (forLoop t mb Φ (ds.drop i) ⟨w'.ρ, w'.S⟩)) ⟨w1, A1.narrow, by rw [List.drop_zero]; exact h1⟩ (fun i σ' H' _ ⟨w', A', _⟩ => hG σ' H' w' A') ?_ ?_
  · rintro i x σ' H' H2 hi ⟨w', A', h'⟩ y
    obtain ⟨w2, d, A2, N2, e1, e2, hd, R⟩ := hY i H' x H2 σ' w' hi A' y
    have hdrop : ds.drop i = d :: ds.drop (i + 1) := by
      obtain ⟨hl, e⟩ := List.getElem?_eq_some_iff.mp hd
      rw [← e]; exact List.drop_eq_getElem_cons hl
    rw [hdrop] at h'
    have h3 : ResS fr W D (match bindT t d w'.ρ with
      | none => .no
      | some ρ' => (mb Φ ⟨ρ', w'.S⟩).bind fun f s1 => match f with
        | .nx => forLoop t mb Φ (ds.drop (i + 1)) s1
        | .ct => forLoop t mb Φ (ds.drop (i + 1)) s1
        | .brk => .ok .nx s1
        | .ret r => .ok (.ret r) s1) := h'
    refine ⟨w1.F, w1.B, w2, d, A2, R, ?_⟩
    rw [e1]
    cases eb : bindT t d w'.ρ with
    | none => rw [eb] at h3; exact h3.elim
    | some ρ' =>
      rw [eb] at h3
      intro σ2 A3 sb
      refine ⟨w1.F, w1.B, { w2 with ρ := ρ' }, A3, ?_⟩
      show ResS (fr.at w1) W _ (mb Φ ⟨ρ', w2.S⟩)
      rw [e2]
      have h4 : ResS (fr.at w1) W D ((mb Φ ⟨ρ', w'.S⟩).bind fun f s1 => match f with
        | .nx => forLoop t mb Φ (ds.drop (i + 1)) s1
        | .ct => forLoop t mb Φ (ds.drop (i + 1)) s1
        | .brk => .ok .nx s1
        | .ret r => .ok (.ret r) s1) := ResS.widen A1 h3
      have h5 : ResS fr W D ((mb Φ ⟨ρ', w'.S⟩).bind fun f s1 => match f with
        | .nx => forLoop t mb Φ (ds.drop (i + 1)) s1
        | .ct => forLoop t mb Φ (ds.drop (i + 1)) s1
        | .brk => .ok .nx s1
        | .ret r => .ok (.ret r) s1) := h3
      generalize mb Φ ⟨ρ', w'.S⟩ = o at h4 h5 ⊢
      cases o with
      | no => exact h4
      | ex x s => exact h4
      | ok f s =>
        cases f with
        | nx =>
          intro σ3 H3 w3 e3 e4 A4
          exact ⟨w3, A4, by rw [e3, e4]; exact h5⟩
        | ct =>
          intro σ3 H3 w3 e3 e4 A4
          exact ⟨w3, A4, by rw [e3, e4]; exact h5⟩
        | brk => exact h4
        | ret r => exact h4
  · rintro σ' H' ⟨w', A', h'⟩
    rw [List.drop_length] at h'
    exact h' σ' H' w' rfl rfl (A1.widen A')
end
/-! ### while -/
def whileLoop (c : M Bool) (body : M Fl) (Φ : PhiT) : Nat → Sta → Out Fl
  | 0, _ => .no
  | n + 1, s => (c Φ s).bind fun b s1 => if b = true then (body Φ s1).bind fun f s2 => (match f with
    | .nx => whileLoop c body Φ n s2
    | .ct => whileLoop c body Φ n s2
    | .brk => .ok .nx s2
    | .ret r => .ok (.ret r) s2) else .ok .nx s1
def turns : Nat := 1000000
def mWhile (c : M Bool) (body : M Fl) : M Fl := fun Φ s => whileLoop c body Φ turns s
section
variable {X : Cx} {fr : Fr} {W : WX} {Φ : PhiT} {pos : Pos} {test : Expr} {mc : M Bool} {mb : M Fl} {body : List Stmt}
theorem ps_whileG (hp : PassesOwn (model X.prog X.w) X.A X.env X.xe) (hc : PT X test (LB fr W Φ mc)) (hb : PSs X body (LS fr W Φ mb)) : PS X (.While test body [] pos) (LS fr W Φ (mWhile mc mb)) := by
  refine PS.imp (ps_while hp hc hb) fun D σ H ⟨w, A, r⟩ => ?_
  refine ⟨fun n σ H => ∃ w, At fr σ H w ∧ ResS fr W D (whileLoop mc mb Φ n ⟨w.ρ, w.S⟩), ⟨turns, w, A, r⟩, ?_⟩
  rintro n σ H ⟨w, A, r⟩
  cases n with
  | zero => exact r.elim
  | succ n =>
    refine ⟨w, A, (ResS.bind (Rel := RelB) r).imp ?_⟩
    rintro b H1 ⟨b', w1, A1, N1, R1, h1⟩
    cases R1
    have h2 : ResS fr W D (if b = true then (mb Φ ⟨w1.ρ, w1.S⟩).bind fun f s2 => (match f with
      | .nx => whileLoop mc mb Φ n s2
      | .ct => whileLoop mc mb Φ n s2
      | .brk => .ok .nx s2
      | .ret r => .ok (.ret r) s2) else .ok .nx ⟨w1.ρ, w1.S⟩) := h1
    by_cases hb : b = true
    · rw [if_pos hb] at h2 ⊢
      refine ⟨fun σ' H' => ∃ w, At fr σ' H' w ∧ ResS fr W D (whileLoop mc mb Φ n ⟨w.ρ, w.S⟩), fun σ' H' q => ⟨n, Nat.lt_succ_self n, q⟩, w1, A1, ?_⟩
      generalize mb Φ ⟨w1.ρ, w1.S⟩ = o at h2 ⊢
      cases o with
      | no => exact h2
      | ex x s => exact h2
      | ok f s =>
        cases f with
        | nx =>
          intro σ3 H3 w3 e3 e4 A4
          exact ⟨w3, A4, by rw [e3, e4]; exact h2⟩
        | ct =>
          intro σ3 H3 w3 e3 e4 A4
          exact ⟨w3, A4, by rw [e3, e4]; exact h2⟩
        | brk => exact h2
        | ret r => exact h2
    · rw [if_neg hb] at h2 ⊢
      exact h2 σ H1 w1 rfl rfl A1
end
end DL
end

section
set_option Elab.async false
set_option linter.all false
set_option maxRecDepth 100000
set_option autoImplicit false
set_option maxHeartbeats 1000000
/-! DL9: list comprehensions. -/
namespace DL
open PySem PySem.Spec PyProof.Rows L2

/-! ### slots forgotten -/
def wipeR (ρ : List (Option Slot)) : List Nat → List (Option Slot)
  | [] => ρ
  | v :: vs => (wipeR ρ vs).set v none
/-- the slots of vs as they were in ρ, the others as in ρ' -/
def backR (ρ ρ' : List (Option Slot)) (vs : List Nat) : List (Option Slot) := (List.range ρ.length).map fun i => if vs.contains i then ρ.getD i none else ρ'.getD i none
theorem wipeR_len (ρ : List (Option Slot)) : ∀ vs, (wipeR ρ vs).length = ρ.length
  | [] => rfl
  | v :: vs => by unfold wipeR; rw [List.length_set, wipeR_len ρ vs]
theorem wipeR_in {ρ : List (Option Slot)} {i : Nat} {s : Slot} : ∀ {vs : List Nat}, (wipeR ρ vs)[i]? = some (some s) → ρ[i]? = some (some s) ∧ i ∉ vs
  | [], h => ⟨h, by simp⟩
  | v :: vs, h => by
    unfold wipeR at h
    rcases put_at h with ⟨_, e, _⟩ | ⟨e, h⟩
    · cases e
    · obtain ⟨h1, h2⟩ := wipeR_in h
      exact ⟨h1, by simp only [List.mem_cons, not_or]; exact ⟨e, h2⟩⟩
theorem wipeR_out {ρ : List (Option Slot)} {i : Nat} : ∀ {vs : List Nat}, i ∉ vs → (wipeR ρ vs)[i]? = ρ[i]?
  | [], _ => rfl
  | v :: vs, h => by
    simp only [List.mem_cons, not_or] at h
    unfold wipeR
    rw [List.getElem?_set_ne (Ne.symm h.1), wipeR_out h.2]
theorem wipe_out {σ : L2.St} {i : Nat} : ∀ {vs : List Nat}, i ∉ vs → (wipe σ vs)[i]? = σ[i]?
  | [], _ => rfl
  | v :: vs, h => by
    simp only [List.mem_cons, not_or] at h
    unfold wipe
    rw [List.getElem?_set_ne (Ne.symm h.1), wipe_out h.2]
theorem wipe_ext {σ σ' : L2.St} {vs : List Nat} (hl : σ'.length = σ.length) (h : ∀ j, j ∉ vs → σ'[j]? = σ[j]?) : wipe σ' vs = wipe σ vs := by
  apply List.ext_getElem?
  intro i
  by_cases hi : i ∈ vs
  · have key : ∀ (τ : L2.St) (l : List Nat), i ∈ l → (wipe τ l)[i]? = if i < τ.length then some none else none := by
      intro τ l
      induction l with
      | nil => intro h; cases h
      | cons v l ih =>
        intro hm
        unfold wipe
        by_cases e : v = i
        · subst e
          by_cases hv : v < τ.length
          · rw [List.getElem?_set_self (by rw [wipe_length]; exact hv), if_pos hv]
          · rw [List.getElem?_eq_none (by rw [List.length_set, wipe_length]; omega), if_neg hv]
        · rw [List.getElem?_set_ne e]
          rcases List.mem_cons.mp hm with z | z
          · exact absurd z.symm e
          · exact ih z
    rw [key _ _ hi, key _ _ hi, hl]
  · rw [wipe_out hi, wipe_out hi, h i hi]
theorem own_wipe {σ : L2.St} {ρ : List (Option Slot)} {vs : List Nat} {i : Nat} {a : Addr} (h : OwnAt (wipe σ vs) (wipeR ρ vs) i a) : i ∉ vs ∧ OwnAt σ ρ i a := by
  obtain ⟨c, h1, h2⟩ := h
  obtain ⟨h3, h4⟩ := wipeR_in h1
  exact ⟨h4, c, h3, by rw [← wipe_out h4]; exact h2⟩
section
variable {fr : Fr} {σ : L2.St} {H : Hp} {w : Wl}
theorem At.wipe (A : At fr σ H w) (vs : List Nat) : At fr (wipe σ vs) H { w with ρ := wipeR w.ρ vs } := by
  refine ⟨⟨A.good.sub, A.good.fn, A.good.tab, A.good.nd, A.good.fb, A.good.bag⟩, ⟨A.stp.keep, A.stp.sub, A.stp.bags, A.stp.fz, A.stp.there⟩, ⟨fun i d h => ?_, fun i c h => ?_, fun i j a h1 h2 => A.slots.inj i j a (own_wipe h1).2 (own_wipe h2).2, by show (wipeR w.ρ vs).length = _; rw [wipeR_len, wipe_length]; exact A.slots.len⟩⟩
  · obtain ⟨h1, h2⟩ := wipeR_in h
    obtain ⟨v, h3, h4⟩ := A.slots.val i d h1
    exact ⟨v, by rw [wipe_out h2]; exact h3, h4⟩
  · obtain ⟨h1, h2⟩ := wipeR_in h
    obtain ⟨a, h3, h4⟩ := A.slots.own i c h1
    exact ⟨a, by rw [wipe_out h2]; exact h3, h4⟩
/-- an object that nobody knows of is written -/
theorem At.poke (A : At fr σ H w) {p : Addr} {o o0 : HO} (hp0 : H p = some o0) (hx : nx o0) (h0 : fr.H0 p = none) (hf : w.F p = none) (hb : p ∉ w.B) (ho : ¬ Own σ w.ρ p) : At fr σ (upd H p o) w := by
  have ne : ∀ {x : Addr} {u : HO}, w.F x = some u → x ≠ p := fun q z => by rw [z, hf] at q; cases q
  refine ⟨⟨fun x u q => by rw [upd_ne (ne q)]; exact A.good.sub x u q, A.good.fn, tabs_upd A.good.tab hp0 hx, A.good.nd, A.good.fb, ?_⟩, ⟨fun x u q hn nb no => ?_, A.stp.sub, A.stp.bags, A.stp.fz, fun x u q => ?_⟩, ⟨A.slots.val, fun i c q => ?_, A.slots.inj, A.slots.len⟩⟩
  · have key : ∀ {B : List Addr} {S : Store}, p ∉ B → Paired (fun a ns => H a = some (.lst ((ns : List Int).map V.int))) B S → Paired (fun x ns => upd H p o x = some (.lst ((ns : List Int).map V.int))) B S := by
      intro B S hb q
      induction q with
      | nil => exact .nil
      | @cons x ns l1 l2 q _ ih =>
        rw [List.mem_cons, not_or] at hb
        exact .cons (by rw [upd_ne (Ne.symm hb.1)]; exact q) (ih hb.2)
    exact key hb A.good.bag
  · have : x ≠ p := fun z => by rw [z, h0] at q; cases q
    rw [upd_ne this]; exact A.stp.keep x u q hn nb no
  · obtain ⟨o', z⟩ := A.stp.there x u q
    by_cases e : x = p
    · exact ⟨o, by rw [e]; exact upd_same⟩
    · exact ⟨o', by rw [upd_ne e]; exact z⟩
  · obtain ⟨a, e1, e2, e3, e4, e5⟩ := A.slots.own i c q
    have ap : a ≠ p := fun z => ho ⟨i, c, q, z ▸ e1⟩
    refine ⟨a, e1, e2, e3, e4, ?_⟩
    obtain ⟨u, z1, z2⟩ := e5; exact ⟨u, by rw [upd_ne ap]; exact z1, z2⟩
end
/-- on, but for what O tells -/
structure NxO (O : Addr → Prop) (H : Hp) (w : Wl) (H' : Hp) (w' : Wl) : Prop where
  keep : ∀ a o, H a = some o → nt o → a ∉ w.B → H' a = some o
  sub : ∀ a o, w.F a = some o → w'.F a = some o
  bags : ∃ C, w'.B = w.B ++ C ∧ ∀ c ∈ C, H c = none
  fz : ∀ a o, w'.F a = some o → w.F a = some o ∨ H a = none ∨ O a
  there : ∀ a o, H a = some o → ∃ o', H' a = some o'
theorem NxO.trans {O : Addr → Prop} {H H1 H2 : Hp} {w w1 w2 : Wl} (a : NxO O H w H1 w1) (b : NxO O H1 w1 H2 w2) : NxO O H w H2 w2 where
  keep := fun x o h hn nb => b.keep x o (a.keep x o h hn nb) hn fun hb => by
    obtain ⟨C, e, hC⟩ := a.bags
    rw [e] at hb
    rcases List.mem_append.mp hb with z | z
    · exact nb z
    · rw [hC x z] at h; cases h
  sub := fun x o h => b.sub x o (a.sub x o h)
  bags := by
    obtain ⟨C, e, hC⟩ := a.bags
    obtain ⟨C', e', hC'⟩ := b.bags
    refine ⟨C ++ C', by rw [e', e, List.append_assoc], fun c hc => ?_⟩
    rcases List.mem_append.mp hc with z | z
    · exact hC c z
    · exact none_back a.there (hC' c z)
  fz := fun x o h => by
    rcases b.fz x o h with z | z | z
    · exact a.fz x o z
    · exact .inr (.inl (none_back a.there z))
    · exact .inr (.inr z)
  there := fun x o h => by
    obtain ⟨o', z⟩ := a.there x o h
    exact b.there x o' z
theorem Nx.o {O : Addr → Prop} {σ : L2.St} {H H' : Hp} {w w' : Wl} (n : Nx σ H w H' w') (h : ∀ a, Own σ w.ρ a → O a) : NxO O H w H' w' :=
  ⟨n.keep, n.sub, n.bags, fun a o q => (n.fz a o q).imp id (Or.imp id (h a)), n.there⟩
theorem NxO.bmono {O : Addr → Prop} {H H1 : Hp} {w w1 : Wl} (n : NxO O H w H1 w1) : ∀ (i : Nat) (a : Addr), w.B[i]? = some a → w1.B[i]? = some a := by
  obtain ⟨C, e, _⟩ := n.bags
  intro i a h
  rw [e, List.getElem?_append_left (List.getElem?_eq_some_iff.mp h).1]
  exact h
/-! ### the meaning -/
def noEx {α : Type} : Out α → Out α
  | .ex _ _ => .no
  | o => o
def compLoop (t : Tg) (vs : List Nat) (c : M Bool) (e : M R) (Φ : PhiT) : List D → List D → Sta → Out (List D)
  | [], acc, s => .ok acc s
  | d :: ds, acc, s => match bindT t d s.ρ with
    | none => .no
    | some ρ' => (noEx (c Φ { s with ρ := ρ' })).bind fun b s1 => if b = true then (noEx (mFrz e Φ s1)).bind fun v s2 => (if acc.length < lim then compLoop t vs c e Φ ds (acc ++ [v]) { s2 with ρ := wipeR s2.ρ vs } else .no)
      else compLoop t vs c e Φ ds acc { s1 with ρ := wipeR s1.ρ vs }
def mComp (it : M (List D)) (t : Tg) (vs : List Nat) (c : M Bool) (e : M R) : M R := fun Φ s => (it Φ s).bind fun ds s1 =>
  (compLoop t vs c e Φ ds [] { s1 with ρ := wipeR s1.ρ vs }).bind fun acc s2 => .ok (.own (.lst acc)) { s2 with ρ := backR s1.ρ s2.ρ vs }
abbrev W0 : WX := fun _ _ _ _ => False
/-- in a comprehension: whatever world the frame is said to have begun in -/
def LVx (fr : Fr) (Φ : PhiT) (m : M R) : TE := fun σ H Q => ∃ F0 B0, LV ⟨fr.mg, fr.T, fr.H0, F0, B0⟩ W0 Φ (mFrz m) σ H Q
def LBx (fr : Fr) (Φ : PhiT) (m : M Bool) : TT := fun σ H Q => ∃ F0 B0, LB ⟨fr.mg, fr.T, fr.H0, F0, B0⟩ W0 Φ m σ H Q
def LGx (fr : Fr) (t : Tg) : TG := fun v σ H Q => ∃ F0 B0, LG ⟨fr.mg, fr.T, fr.H0, F0, B0⟩ t v σ H Q
theorem ResG.noEx {α β : Type} {fr : Fr} {W : WX} {σ : L2.St} {H : Hp} {w : Wl} {Rel : Rl α β} {Q : β → Hp → Prop} {o : Out α} (h : ResG fr W σ H w Rel Q (DL.noEx o)) : ResG fr W0 σ H w Rel Q o := by
  cases o with
  | ok r s => exact h
  | ex x s => exact h.elim
  | no => exact h
theorem bindT_own {t : Tg} {d : D} : ∀ {ρ ρ' : List (Option Slot)}, bindT t d ρ = some ρ' → ρ'.length = ρ.length ∧ (∀ j, j ∉ t.ix → ρ'[j]? = ρ[j]?) ∧ ∀ j c, j ∈ t.ix → ρ'[j]? ≠ some (some (.own c)) := by
  have set_ok : ∀ {ρ ρ' : List (Option Slot)} {i : Nat} {d : D}, (if i < ρ.length then some (ρ.set i (some (.val d))) else none) = some ρ' → ρ'.length = ρ.length ∧ (∀ j, j ∉ [i] → ρ'[j]? = ρ[j]?) ∧ ∀ j c, ρ[j]? ≠ some (some (.own c)) ∨ j ∈ [i] → ρ'[j]? ≠ some (some (.own c)) := by
    intro ρ ρ' i d h
    by_cases hi : i < ρ.length
    · rw [if_pos hi] at h
      cases h
      refine ⟨List.length_set, fun j hj => List.getElem?_set_ne (fun z => hj (by simp [z])), fun j c hj z => ?_⟩
      rcases put_at z with ⟨_, e, _⟩ | ⟨e, z⟩
      · cases e
      · rcases hj with hj | hj
        · exact hj z
        · exact e (by simpa using hj)
    · rw [if_neg hi] at h; cases h
  have both : ∀ (n : Nat), (∀ (t : Tg) (d : D) (ρ ρ' : List (Option Slot)), sizeOf t ≤ n → bindT t d ρ = some ρ' → ρ'.length = ρ.length ∧ (∀ j, j ∉ t.ix → ρ'[j]? = ρ[j]?) ∧ ∀ j c, ρ[j]? ≠ some (some (.own c)) ∨ j ∈ t.ix → ρ'[j]? ≠ some (some (.own c))) ∧
      (∀ (ts : List Tg) (ds : List D) (ρ ρ' : List (Option Slot)), sizeOf ts ≤ n → bindTs ts ds ρ = some ρ' → ρ'.length = ρ.length ∧ (∀ j, j ∉ ixs ts → ρ'[j]? = ρ[j]?) ∧ ∀ j c, ρ[j]? ≠ some (some (.own c)) ∨ j ∈ ixs ts → ρ'[j]? ≠ some (some (.own c))) := by
    intro n
    induction n with
    | zero =>
      refine ⟨fun t d ρ ρ' h => ?_, fun ts ds ρ ρ' h => ?_⟩
      · cases t <;> simp at h
      · cases ts <;> simp at h
    | succ n ih =>
      refine ⟨fun t d ρ ρ' h e => ?_, fun ts ds ρ ρ' h e => ?_⟩
      · cases t with
        | name i => exact set_ok e
        | tup ts =>
          cases d with
          | tup ds => exact ih.2 ts ds ρ ρ' (by simp at h; omega) e
          | _ => cases e
      · cases ts with
        | nil =>
          cases ds with
          | nil => cases e; exact ⟨rfl, fun _ _ => rfl, fun j c hj => hj.elim id fun z => by cases z⟩
          | cons d r => cases e
        | cons t ts =>
          cases ds with
          | nil => cases e
          | cons d r =>
            have e' : (match bindT t d ρ with
              | some ρ' => bindTs ts r ρ'
              | none => none) = some ρ' := e
            cases e1 : bindT t d ρ with
            | none => rw [e1] at e'; cases e'
            | some ρ1 =>
              rw [e1] at e'
              obtain ⟨a1, a2, a3⟩ := ih.1 t d ρ ρ1 (by simp at h; omega) e1
              obtain ⟨b1, b2, b3⟩ := ih.2 ts r ρ1 ρ' (by simp at h; omega) e'
              refine ⟨b1.trans a1, fun j hj => ?_, fun j c hj => ?_⟩
              · have hj' : j ∉ t.ix ++ ixs ts := hj
                rw [List.mem_append, not_or] at hj'
                rw [b2 j hj'.2, a2 j hj'.1]
              · rcases hj with hj | hj
                · exact b3 j c (.inl (a3 j c (.inl hj)))
                · have hj' : j ∈ t.ix ++ ixs ts := hj
                  rcases List.mem_append.mp hj' with z | z
                  · exact b3 j c (.inl (a3 j c (.inr z)))
                  · exact b3 j c (.inr z)
  intro ρ ρ' e
  obtain ⟨h1, h2, h3⟩ := (both (sizeOf t)).1 t d ρ ρ' (Nat.le_refl _) e
  exact ⟨h1, h2, fun j c hj => h3 j c (.inr hj)⟩

theorem NxO.re {O : Addr → Prop} {H H1 : Hp} {w w1 : Wl} (n : NxO O H w H1 w1) (ρ ρ1 : List (Option Slot)) : NxO O H { w with ρ := ρ } H1 { w1 with ρ := ρ1 } := ⟨n.keep, n.sub, n.bags, n.fz, n.there⟩
theorem NxO.poke {O : Addr → Prop} {H H1 : Hp} {w w1 : Wl} (n : NxO O H w H1 w1) {p : Addr} {o : HO} (hp : H p = none) : NxO O H w (upd H1 p o) w1 :=
  ⟨fun a u h hn nb => by rw [upd_ne (ne_of_none h hp)]; exact n.keep a u h hn nb, n.sub, n.bags, n.fz, fun a u h => by
    obtain ⟨o', z⟩ := n.there a u h
    exact ⟨o', by rw [upd_ne (ne_of_none h hp)]; exact z⟩⟩
theorem backR_at {ρ ρ' : List (Option Slot)} {vs : List Nat} {i : Nat} {s : Slot} (h : (backR ρ ρ' vs)[i]? = some (some s)) : (i ∈ vs ∧ ρ[i]? = some (some s)) ∨ (i ∉ vs ∧ ρ'[i]? = some (some s)) := by
  unfold backR at h
  rw [List.getElem?_map] at h
  by_cases hi : i < ρ.length
  · rw [List.getElem?_range hi] at h
    have h' : (if vs.contains i then ρ.getD i none else ρ'.getD i none) = some s := Option.some.inj h
    have gd : ∀ (l : List (Option Slot)), l.getD i none = some s → l[i]? = some (some s) := fun l e => by
      rw [List.getD_eq_getElem?_getD] at e
      cases q : l[i]? with
      | none => rw [q] at e; cases e
      | some x => rw [q] at e; exact congrArg some e
    by_cases hv : i ∈ vs
    · rw [if_pos (by simpa using hv)] at h'
      exact .inl ⟨hv, gd _ h'⟩
    · rw [if_neg (by simpa using hv)] at h'
      exact .inr ⟨hv, gd _ h'⟩
  · rw [List.getElem?_eq_none (by simpa using hi)] at h; cases h
section
variable {fr : Fr} {W : WX} {Φ : PhiT}
theorem At.back {σ : L2.St} {H1 H : Hp} {w1 wc : Wl} {vs : List Nat} (A1 : At fr σ H1 w1) (Ac : At (fr.at w1) (L2.wipe σ vs) H wc) (n : NxO (Own (L2.wipe σ vs) (wipeR w1.ρ vs)) H1 w1 H wc) (ho : ∀ a, Own (L2.wipe σ vs) wc.ρ a → Own (L2.wipe σ vs) (wipeR w1.ρ vs) a) :
    At fr σ H { wc with ρ := backR w1.ρ wc.ρ vs } ∧ Nx σ H1 w1 H { wc with ρ := backR w1.ρ wc.ρ vs } := by
  have Aw := A1.widen Ac
  have oo : ∀ {a : Addr}, Own (L2.wipe σ vs) (wipeR w1.ρ vs) a → ∃ k, k ∉ vs ∧ OwnAt σ w1.ρ k a := fun {a} ⟨k, hk⟩ => ⟨k, own_wipe hk⟩
  have osplit : ∀ {i : Nat} {a : Addr}, OwnAt σ (backR w1.ρ wc.ρ vs) i a → (i ∈ vs ∧ OwnAt σ w1.ρ i a) ∨ (i ∉ vs ∧ OwnAt (L2.wipe σ vs) wc.ρ i a) := fun {i a} ⟨c, h1, h2⟩ => by
    rcases backR_at h1 with ⟨hv, h⟩ | ⟨hv, h⟩
    · exact .inl ⟨hv, c, h, h2⟩
    · exact .inr ⟨hv, c, h, by rw [wipe_out hv]; exact h2⟩
  refine ⟨⟨⟨Aw.good.sub, Aw.good.fn, Aw.good.tab, Aw.good.nd, Aw.good.fb, Aw.good.bag⟩, ⟨Aw.stp.keep, Aw.stp.sub, Aw.stp.bags, Aw.stp.fz, Aw.stp.there⟩, ⟨fun i d h => ?_, fun i c h => ?_, fun i j a h1 h2 => ?_, ?_⟩⟩, ⟨n.keep, n.sub, n.bags, fun a o h => ?_, n.there, fun a h => ?_⟩⟩
  · rcases backR_at h with ⟨hv, h⟩ | ⟨hv, h⟩
    · obtain ⟨v, h1, h2⟩ := A1.slots.val i d h
      exact ⟨v, h1, h2.mono n.sub n.bmono⟩
    · obtain ⟨v, h1, h2⟩ := Ac.slots.val i d h
      exact ⟨v, by rw [← wipe_out hv]; exact h1, h2⟩
  · rcases backR_at h with ⟨hv, h⟩ | ⟨hv, h⟩
    · obtain ⟨a, h1, h2, h3, h4, h5⟩ := A1.slots.own i c h
      obtain ⟨u, z1, z2⟩ := h5
      refine ⟨a, h1, h2, ?_, fun z => ?_, u, n.keep a _ z1 z2.nt h4, z2.mono n.sub n.bmono⟩
      · show wc.F a = none
        cases e : wc.F a with
        | none => rfl
        | some o =>
          rcases n.fz a o e with z | z | z
          · rw [h3] at z; cases z
          · rw [z] at z1; cases z1
          · obtain ⟨k, hk, hk2⟩ := oo z
            exact absurd (A1.slots.inj k i a hk2 ⟨_, h, h1⟩ ▸ hv) hk
      · have z' : a ∈ wc.B := z
        obtain ⟨C, e, hC⟩ := n.bags
        rw [e] at z'
        rcases List.mem_append.mp z' with q | q
        · exact h4 q
        · rw [hC a q] at z1; cases z1
    · obtain ⟨a, h1, h2⟩ := Ac.slots.own i c h
      exact ⟨a, by rw [← wipe_out hv]; exact h1, h2⟩
  · rcases osplit h1 with ⟨hi, q1⟩ | ⟨hi, q1⟩ <;> rcases osplit h2 with ⟨hj, q2⟩ | ⟨hj, q2⟩
    · exact A1.slots.inj i j a q1 q2
    · obtain ⟨k, hk, hk2⟩ := oo (ho a ⟨j, q2⟩)
      exact absurd (A1.slots.inj k i a hk2 q1 ▸ hi) hk
    · obtain ⟨k, hk, hk2⟩ := oo (ho a ⟨i, q1⟩)
      exact absurd (A1.slots.inj k j a hk2 q2 ▸ hj) hk
    · exact Ac.slots.inj i j a q1 q2
  · show (backR w1.ρ wc.ρ vs).length = σ.length
    unfold backR
    rw [List.length_map, List.length_range]
    exact A1.slots.len
  · rcases n.fz a o h with z | z | z
    · exact .inl z
    · exact .inr (.inl z)
    · obtain ⟨k, _, hk⟩ := oo z
      exact .inr (.inr ⟨k, hk⟩)
  · obtain ⟨i, hi⟩ := h
    rcases osplit hi with ⟨_, q⟩ | ⟨_, q⟩
    · exact ⟨i, q⟩
    · obtain ⟨k, _, hk⟩ := oo (ho a ⟨i, q⟩)
      exact ⟨k, hk⟩
theorem comp_look {mi : M (List D)} {t : Tg} {vs : List Nat} {c : M Bool} {e : M R} (ht : ∀ i ∈ t.ix, i ∈ vs) {σ : L2.St} {H : Hp} {Q : VK} (h : LE fr W Φ (mComp mi t vs c e) σ H Q) :
    tLc (LI fr W Φ mi) (LGx fr t) (LBx fr Φ c) (LVx fr Φ e) vs σ H Q := by
  obtain ⟨w, A, r⟩ := h
  refine ⟨w, A, (ResG.bind (Rel' := RelI fr) antiR r).imp ?_⟩
  rintro J H1 ⟨ds, w1, A1, N1, ⟨G, Y, wk, hG, hY⟩, h1⟩ p hp
  have hOp : ¬ Own (wipe σ vs) (wipeR w1.ρ vs) p := fun ⟨k, hk⟩ => A1.newO hp ⟨k, (own_wipe hk).2⟩
  refine lc_it wk (g := LGx fr t) (tt := LBx fr Φ c) (te := LVx fr Φ e) (fun i Hc => ∃ wc acc xs, At (fr.at w1) (wipe σ vs) Hc wc ∧ NxO (Own (wipe σ vs) (wipeR w1.ρ vs)) H1 w1 Hc wc ∧ (∀ a, Own (wipe σ vs) wc.ρ a → Own (wipe σ vs) (wipeR w1.ρ vs) a) ∧
    Hc p = some (.lst xs) ∧ Reps wc.F wc.B xs acc ∧ wc.F p = none ∧ p ∉ wc.B ∧ ResG fr W σ H1 w1 (RelR σ) Q ((compLoop t vs c e Φ (ds.drop i) acc ⟨wc.ρ, wc.S⟩).bind fun acc s2 => .ok (.own (.lst acc)) { s2 with ρ := backR w1.ρ s2.ρ vs })) ?_ ?_ ?_ ?_
  · refine ⟨{ w1 with ρ := wipeR w1.ρ vs }, [], [], (A1.narrow.wipe vs).push hp, ?_, fun a h => h, upd_same, .nil, A1.newF hp, A1.newB hp, by rw [List.drop_zero]; exact h1⟩
    exact ⟨fun a u h _ _ => by rw [upd_ne (ne_of_none h hp)]; exact h, fun _ _ h => h, ⟨[], by simp, by simp⟩, fun _ _ h => .inl h, fun a u h => ⟨u, by rw [upd_ne (ne_of_none h hp)]; exact h⟩⟩
  · rintro i Hc _ ⟨wc, acc, xs, Ac, _⟩
    exact hG _ _ _ Ac
  · rintro i x Hc H' hi ⟨wc, acc, xs, Ac, nc, oc, hpc, rc, fpc, bpc, hc⟩ y
    obtain ⟨w2, d, A2, N2, e1, e2, hd, R⟩ := hY i Hc x H' _ wc hi Ac y
    have hdrop : ds.drop i = d :: ds.drop (i + 1) := by
      obtain ⟨hl, e⟩ := List.getElem?_eq_some_iff.mp hd
      rw [← e]; exact List.drop_eq_getElem_cons hl
    rw [hdrop] at hc
    refine ⟨w1.F, w1.B, w2, d, A2, R, ?_⟩
    rw [e1]
    have h3 : ResG fr W σ H1 w1 (RelR σ) Q ((match bindT t d wc.ρ with
      | none => (.no : Out (List D))
      | some ρ' => (noEx (c Φ ⟨ρ', wc.S⟩)).bind fun b s1 => if b = true then (noEx (mFrz e Φ s1)).bind fun v s2 => (if acc.length < lim then compLoop t vs c e Φ (ds.drop (i + 1)) (acc ++ [v]) { s2 with ρ := wipeR s2.ρ vs } else .no)
        else compLoop t vs c e Φ (ds.drop (i + 1)) acc { s1 with ρ := wipeR s1.ρ vs }).bind fun acc s2 => .ok (.own (.lst acc)) { s2 with ρ := backR w1.ρ s2.ρ vs }) := hc
    cases eb : bindT t d wc.ρ with
    | none => rw [eb] at h3; exact h3.elim
    | some ρ' =>
      rw [eb] at h3
      obtain ⟨bl, bo, bn⟩ := bindT_own eb
      intro σ2 A3 sb
      have ew : wipe σ2 vs = wipe σ vs := by
        have q1 : wipe σ2 vs = wipe (wipe σ vs) vs := wipe_ext sb.2 fun j hj => sb.1 j fun z => hj (ht j z)
        have q2 : wipe (wipe σ vs) vs = wipe σ vs := wipe_ext (wipe_length σ vs) fun j hj => wipe_out hj
        exact q1.trans q2
      have o2 : ∀ a, Own σ2 ρ' a → Own (wipe σ vs) (wipeR w1.ρ vs) a := fun a ⟨j, k, q1, q2⟩ => by
        have hj : j ∉ t.ix := fun z => bn j k z q1
        exact oc a ⟨j, k, by rw [← bo j hj]; exact q1, by rw [← sb.1 j hj]; exact q2⟩
      have hp2 : H' p = some (.lst xs) := N2.keep p _ hpc nt_lst bpc
      have notB : ∀ {Ha Hb : Hp} {wa wb : Wl} {τ : L2.St}, Nx τ Ha wa Hb wb → p ∉ wa.B → (∃ u, Ha p = some u) → p ∉ wb.B := fun {Ha Hb wa wb τ} n nb ⟨u, hu⟩ z => by
        obtain ⟨C, q, hC⟩ := n.bags
        rw [q] at z
        rcases List.mem_append.mp z with z | z
        · exact nb z
        · rw [hC p z] at hu; cases hu
      have notF : ∀ {Ha Hb : Hp} {wa wb : Wl} {τ : L2.St}, Nx τ Ha wa Hb wb → wa.F p = none → (∃ u, Ha p = some u) → ¬ Own τ wa.ρ p → wb.F p = none := fun {Ha Hb wa wb τ} n nf ⟨u, hu⟩ no => by
        cases q : wb.F p with
        | none => rfl
        | some o =>
          rcases n.fz p o q with z | z | z
          · rw [nf] at z; cases z
          · rw [hu] at z; cases z
          · exact absurd z no
      have bp2 := notB N2 bpc ⟨_, hpc⟩
      have fp2 := notF N2 fpc ⟨_, hpc⟩ fun z => hOp (oc p z)
      refine ⟨ew, w1.F, w1.B, { w2 with ρ := ρ' }, A3, ?_⟩
      show ResG (fr.at w1) W0 σ2 H' _ RelB _ (c Φ ⟨ρ', w2.S⟩)
      rw [e2]
      have h3 : ResG fr W σ H1 w1 (RelR σ) Q (((noEx (c Φ ⟨ρ', wc.S⟩)).bind fun b s1 => if b = true then (noEx (mFrz e Φ s1)).bind fun v s2 => (if acc.length < lim then compLoop t vs c e Φ (ds.drop (i + 1)) (acc ++ [v]) { s2 with ρ := wipeR s2.ρ vs } else .no)
        else compLoop t vs c e Φ (ds.drop (i + 1)) acc { s1 with ρ := wipeR s1.ρ vs }).bind fun acc s2 => .ok (.own (.lst acc)) { s2 with ρ := backR w1.ρ s2.ρ vs }) := h3
      generalize c Φ ⟨ρ', wc.S⟩ = ob at h3 ⊢
      cases ob with
      | no => exact h3.elim
      | ex x s => exact h3.elim
      | ok b s1 =>
        intro b' H3 w3 e3 e4 A4 N4 R4
        cases R4
        have es1 : s1 = ⟨w3.ρ, w3.S⟩ := by rw [e3, e4]
        subst es1
        have n3 : NxO (Own (wipe σ vs) (wipeR w1.ρ vs)) H1 w1 H3 w3 := nc.trans ((N2.o oc).trans (let q := N4.o (O := Own (wipe σ vs) (wipeR w1.ρ vs)) o2; ⟨q.keep, q.sub, q.bags, q.fz, q.there⟩))
        have o3 : ∀ a, Own σ2 w3.ρ a → Own (wipe σ vs) (wipeR w1.ρ vs) a := fun a z => o2 a (N4.own a z)
        have hp3 : H3 p = some (.lst xs) := N4.keep p _ hp2 nt_lst bp2
        have bp3 := notB N4 bp2 ⟨_, hp2⟩
        have fp3 : w3.F p = none := notF N4 fp2 ⟨_, hp2⟩ fun z => hOp (o2 p z)
        have wiped : ∀ {Hx : Hp} {wx : Wl}, At (fr.at w1) σ2 Hx wx → At (fr.at w1) (wipe σ vs) Hx { wx with ρ := wipeR wx.ρ vs } := fun {Hx wx} Ax => ew ▸ Ax.wipe vs
        have ownw : ∀ {wx : Wl}, (∀ a, Own σ2 wx.ρ a → Own (wipe σ vs) (wipeR w1.ρ vs) a) → ∀ a, Own (wipe σ vs) (wipeR wx.ρ vs) a → Own (wipe σ vs) (wipeR w1.ρ vs) a := fun {wx} hx a ⟨k, hk⟩ => by
          rw [← ew] at hk
          exact hx a ⟨k, (own_wipe hk).2⟩
        have rc3 : Reps w3.F w3.B xs acc := by
          have q2 : Reps w2.F w2.B xs acc := N2.reps rc
          exact Reps.mono N4.sub N4.bmono q2
        cases b with
        | false =>
          exact ⟨{ w3 with ρ := wipeR w3.ρ vs }, acc, xs, wiped A4, n3.re w1.ρ _, ownw o3, hp3, rc3, fp3, bp3, h3⟩
        | true =>
          have h4 : ResG fr W σ H1 w1 (RelR σ) Q (((noEx (mFrz e Φ ⟨w3.ρ, w3.S⟩)).bind fun v s2 => (if acc.length < lim then compLoop t vs c e Φ (ds.drop (i + 1)) (acc ++ [v]) { s2 with ρ := wipeR s2.ρ vs } else .no)).bind fun acc s2 => .ok (.own (.lst acc)) { s2 with ρ := backR w1.ρ s2.ρ vs }) := h3
          refine ⟨w1.F, w1.B, w3, A4, ?_⟩
          generalize mFrz e Φ ⟨w3.ρ, w3.S⟩ = oe at h4 ⊢
          cases oe with
          | no => exact h4.elim
          | ex x s => exact h4.elim
          | ok v s2 =>
            intro y4 H4 w4 e5 e6 A5 N5 R5
            have es2 : s2 = ⟨w4.ρ, w4.S⟩ := by rw [e5, e6]
            subst es2
            by_cases hl : acc.length < lim
            · have h5 : ResG fr W σ H1 w1 (RelR σ) Q ((if acc.length < lim then compLoop t vs c e Φ (ds.drop (i + 1)) (acc ++ [v]) ⟨wipeR w4.ρ vs, w4.S⟩ else .no).bind fun acc s2 => .ok (.own (.lst acc)) { s2 with ρ := backR w1.ρ s2.ρ vs }) := h4
              rw [if_pos hl] at h5
              have o4 : ∀ a, Own σ2 w4.ρ a → Own (wipe σ vs) (wipeR w1.ρ vs) a := fun a z => o3 a (N5.own a z)
              have hp4 : H4 p = some (.lst xs) := N5.keep p _ hp3 nt_lst bp3
              have bp4 := notB N5 bp3 ⟨_, hp3⟩
              have fp4 : w4.F p = none := notF N5 fp3 ⟨_, hp3⟩ fun z => hOp (o3 p z)
              have n4 : NxO (Own (wipe σ vs) (wipeR w1.ρ vs)) H1 w1 H4 w4 := n3.trans (N5.o o3)
              have ow := ownw o4
              refine ⟨xs, hp4, by rw [rc.length]; exact lim_lt' hl, { w4 with ρ := wipeR w4.ρ vs }, acc ++ [v], xs ++ [y4], ?_, (n4.poke hp).re w1.ρ _, ow, upd_same, (N5.reps rc3).append (.cons R5 .nil), fp4, bp4, h5⟩
              exact (wiped A5).poke hp4 nx_lst (A1.new0 hp) fp4 bp4 fun z => hOp (ow p z)
            · have h5 : ResG fr W σ H1 w1 (RelR σ) Q ((if acc.length < lim then compLoop t vs c e Φ (ds.drop (i + 1)) (acc ++ [v]) ⟨wipeR w4.ρ vs, w4.S⟩ else .no).bind fun acc s2 => .ok (.own (.lst acc)) { s2 with ρ := backR w1.ρ s2.ρ vs }) := h4
              rw [if_neg hl] at h5
              exact h5.elim
  · rintro Hc ⟨wc, acc, xs, Ac, nc, oc, hpc, rc, fpc, bpc, hc⟩
    rw [List.drop_length] at hc
    obtain ⟨Ab, Nb⟩ := A1.back Ac nc oc
    refine hc (.ref p) Hc { wc with ρ := backR w1.ρ wc.ρ vs } rfl rfl Ab Nb ⟨p, rfl, hp, fpc, bpc, fun z => A1.newO hp (Nb.own p z), _, hpc, .lst rc⟩
end
end DL
end

section
set_option Elab.async false
set_option linter.all false
set_option maxRecDepth 100000
set_option autoImplicit false
set_option maxHeartbeats 1000000
/-! DL10: built-ins by looks. -/
namespace DL
open PySem PySem.Spec PyProof.Rows L2

/-! ### arguments that are only looked at -/
inductive Pks (H F : Hp) (B : List Addr) : List V → List D → Prop
  | nil : Pks H F B [] []
  | cons {v : V} {d : D} {vs : List V} {ds : List D} : Pk H F B v d → Pks H F B vs ds → Pks H F B (v :: vs) (d :: ds)
def RelPs : Rl (List D) (List V) := fun _ H w vs ds => Pks H w.F w.B vs ds
theorem antiPs : Anti RelPs := fun _ _ _ _ _ _ _ h => h
abbrev LPs (fr : Fr) (W : WX) (Φ : PhiT) (m : M (List D)) : TA := fun σ H Q => LiftG fr W Φ RelPs m σ H Q
def mLooks : List (M R) → M (List D)
  | [] => fun _ s => .ok [] s
  | m :: r => fun Φ s => (mOpd m Φ s).bind fun d s1 => (mLooks r Φ s1).bind fun ds s2 => .ok (d :: ds) s2
def mB (op : List D → Option R) (m : M (List D)) : M R := fun Φ s => (m Φ s).bind fun ds s1 => ofO (op ds) Φ s1
def VSC (r : List V → Hp → VK → Prop) (op : List D → Option R) : Prop := ∀ (fr : Fr) (W : WX) (Φ : PhiT) (σ : L2.St) (H : Hp) (w : Wl) (Q : V → Hp → Prop) (vs : List V) (ds : List D), At fr σ H w → Pks H w.F w.B vs ds →
  ResG fr W σ H w (RelR σ) Q (ofO (op ds) Φ ⟨w.ρ, w.S⟩) → r vs H Q
section
variable {C : Cs} {X : Cx} {fr : Fr} {W : WX} {Φ : PhiT} {pos p : Pos} {e : Expr} {es : List Expr} {m : M R} {ml : List (M R)} {ms : M (List D)}
theorem pa_nilP : PA X [] (LPs fr W Φ (mLooks [])) := PA.imp pa_nil fun σ H Q ⟨w, A, r⟩ => r.here A (by exact .nil)
theorem pa_consP (h : PE X e (LE fr W Φ m)) (hs : PA X es (LPs fr W Φ (mLooks ml))) (hst : starEach (e :: es) X.env = (false, eval e X.env) :: starEach es X.env) : PA X (e :: es) (LPs fr W Φ (mLooks (m :: ml))) := by
  refine PA.imp (pa_cons (pe_opd h) hs hst) fun σ H Q ⟨w, A, r⟩ => ?_
  refine ⟨w, A, (ResG.bind (Rel' := RelP) antiPs r).imp ?_⟩
  rintro x H1 ⟨d, w1, A1, N1, R1, h1⟩
  refine ⟨w1, A1, (ResG.bind (Rel' := RelPs) antiPs h1).imp ?_⟩
  rintro xs H2 ⟨ds, w2, A2, N2, R2, h2⟩
  exact h2.here A2 (.cons (N2.pk R1) R2)
theorem pe_bG {x : Str} {id : String} {r : List V → Hp → VK → Prop} {op : List D → Option R} (c : CtxOk C X fr W Φ) (hg : C.sc.names.lookup x = some .globalImplicit) (hb : x ∈ bNames) (hv : bootBuiltins x = some (.builtin id)) (hn : x ≠ "__name__") (hdb : (x == ("__debug__" : Str)) = false)
    (hc : CallR X (.builtin id) r) (vs : VSC r op) (ha : PA X (e :: es) (LPs fr W Φ ms)) (he : starEach (e :: es) X.env = (false, eval e X.env) :: starEach es X.env) (hpl : (backTo pos (starEach es X.env)).any (·.1) = false) :
    PE X (.Call (.Name x p) (e :: es) [] pos) (LE fr W Φ (mB op ms)) := by
  refine PE.imp (pe_callB hc (show X.env.scope.names.lookup x = _ by rw [c.sc]; exact hg) (c.free x hb) hv ha hn hdb he hpl) fun σ H Q ⟨w, A, r⟩ => ⟨w, A, (ResG.bind (Rel' := RelPs) antiR r).imp ?_⟩
  rintro us H1 ⟨ds, w1, A1, N1, R1, h1⟩
  exact vs fr W Φ σ H1 w1 Q us ds A1 R1 h1
theorem pe_tG {x : Str} {T : String} {r : List V → Hp → VK → Prop} {op : List D → Option R} (c : CtxOk C X fr W Φ) (hg : C.sc.names.lookup x = some .globalImplicit) (hb : x ∈ bNames) (hv : bootBuiltins x = some (.type T)) (hn : x ≠ "__name__") (hdb : (x == ("__debug__" : Str)) = false)
    (hc : CallR X (.type T) r) (vs : VSC r op) (ha : PA X (e :: es) (LPs fr W Φ ms)) (he : starEach (e :: es) X.env = (false, eval e X.env) :: starEach es X.env) (hpl : (backTo pos (starEach es X.env)).any (·.1) = false) :
    PE X (.Call (.Name x p) (e :: es) [] pos) (LE fr W Φ (mB op ms)) := by
  refine PE.imp (pe_callTy hc (show X.env.scope.names.lookup x = _ by rw [c.sc]; exact hg) (c.free x hb) hv ha hn hdb he hpl) fun σ H Q ⟨w, A, r⟩ => ⟨w, A, (ResG.bind (Rel' := RelPs) antiR r).imp ?_⟩
  rintro us H1 ⟨ds, w1, A1, N1, R1, h1⟩
  exact vs fr W Φ σ H1 w1 Q us ds A1 R1 h1
end
theorem pks1 {H F : Hp} {B : List Addr} {vs : List V} {d : D} (R : Pks H F B vs [d]) : ∃ v, vs = [v] ∧ Pk H F B v d := by
  cases R with | cons q r => cases r; exact ⟨_, rfl, q⟩
theorem pks2 {H F : Hp} {B : List Addr} {vs : List V} {d d' : D} (R : Pks H F B vs [d, d']) : ∃ v v', vs = [v, v'] ∧ Pk H F B v d ∧ Pk H F B v' d' := by
  cases R with | cons q r => cases r with | cons q2 r => cases r; exact ⟨_, _, rfl, q, q2⟩

/-! ### len, abs, int, sum, all, any, max, min -/
def opLen : List D → Option R
  | [.lst l] => some (.val (.int (l.length : Nat)))
  | [.tup l] => some (.val (.int (l.length : Nat)))
  | _ => none
def opAbs : List D → Option R
  | [.int i] => some (.val (.int (if i < 0 then -i else i)))
  | _ => none
def opInt : List D → Option R
  | [.bl k] => some (.val (.int (if k = true then 1 else 0)))
  | [.int i] => some (.val (.int i))
  | _ => none
def intsOf : List D → Option (List Int)
  | [] => some []
  | .int i :: r => (intsOf r).map (i :: ·)
  | _ => none
def boolsOf : List D → Option (List Bool)
  | [] => some []
  | .bl i :: r => (boolsOf r).map (i :: ·)
  | _ => none
def opSum : List D → Option R
  | [.lst l] => (intsOf l).map fun ns => .val (.int ns.sum)
  | _ => none
def opAll : List D → Option R
  | [.lst l] => (boolsOf l).map fun bs => .val (.bl (bs.all id))
  | _ => none
def opAny : List D → Option R
  | [.lst l] => (boolsOf l).map fun bs => .val (.bl (bs.any id))
  | _ => none
def maxL : List Int → Option Int
  | [] => none
  | n :: r => some (r.foldl max n)
def minL : List Int → Option Int
  | [] => none
  | n :: r => some (r.foldl min n)
def opMax : List D → Option R
  | [.int i, .int j] => some (.val (.int (if j > i then j else i)))
  | [.lst l] => ((intsOf l).bind maxL).map fun m => .val (.int m)
  | _ => none
def opMin : List D → Option R
  | [.int i, .int j] => some (.val (.int (if j < i then j else i)))
  | [.lst l] => ((intsOf l).bind minL).map fun m => .val (.int m)
  | _ => none
theorem intsOf_reps {F : Hp} {B : List Addr} : ∀ {l : List D} {xs : List V} {ns : List Int}, Reps F B xs l → intsOf l = some ns → xs = ns.map V.int
  | [], _, ns, .nil, e => by cases e; rfl
  | d :: r, _, ns, .cons q t, e => by
    cases d <;> first | (cases e; done) | skip
    rename_i i
    cases q
    have e' : (intsOf r).map (i :: ·) = some ns := e
    cases e2 : intsOf r with
    | none => rw [e2] at e'; cases e'
    | some ms => rw [e2] at e'; cases e'; rw [intsOf_reps t e2]; rfl
theorem boolsOf_reps {F : Hp} {B : List Addr} : ∀ {l : List D} {xs : List V} {ns : List Bool}, Reps F B xs l → boolsOf l = some ns → xs = ns.map V.bl
  | [], _, ns, .nil, e => by cases e; rfl
  | d :: r, _, ns, .cons q t, e => by
    cases d <;> first | (cases e; done) | skip
    rename_i i
    cases q
    have e' : (boolsOf r).map (i :: ·) = some ns := e
    cases e2 : boolsOf r with
    | none => rw [e2] at e'; cases e'
    | some ms => rw [e2] at e'; cases e'; rw [boolsOf_reps t e2]; rfl
theorem foldl_max_spec : ∀ (l : List Int) (n : Int), (l.foldl max n = n ∨ l.foldl max n ∈ l) ∧ n ≤ l.foldl max n ∧ ∀ y ∈ l, y ≤ l.foldl max n
  | [], n => ⟨.inl rfl, Int.le_refl _, by simp⟩
  | x :: r, n => by
    obtain ⟨h1, h2, h3⟩ := foldl_max_spec r (max n x)
    show (r.foldl max (max n x) = n ∨ _) ∧ _
    refine ⟨?_, by show n ≤ r.foldl max (max n x); omega, fun y hy => ?_⟩
    · rcases h1 with e | e
      · rcases Int.le_total n x with z | z
        · exact .inr (by show r.foldl max (max n x) ∈ _; rw [e, Int.max_eq_right z]; exact List.mem_cons_self)
        · exact .inl (by rw [e]; exact Int.max_eq_left z)
      · exact .inr (List.mem_cons_of_mem _ e)
    · show y ≤ r.foldl max (max n x)
      rcases List.mem_cons.mp hy with rfl | z
      · omega
      · exact h3 y z
theorem foldl_min_spec : ∀ (l : List Int) (n : Int), (l.foldl min n = n ∨ l.foldl min n ∈ l) ∧ l.foldl min n ≤ n ∧ ∀ y ∈ l, l.foldl min n ≤ y
  | [], n => ⟨.inl rfl, Int.le_refl _, by simp⟩
  | x :: r, n => by
    obtain ⟨h1, h2, h3⟩ := foldl_min_spec r (min n x)
    show (r.foldl min (min n x) = n ∨ _) ∧ _
    refine ⟨?_, by show r.foldl min (min n x) ≤ n; omega, fun y hy => ?_⟩
    · rcases h1 with e | e
      · rcases Int.le_total n x with z | z
        · exact .inl (by rw [e]; exact Int.min_eq_left z)
        · exact .inr (by show r.foldl min (min n x) ∈ _; rw [e, Int.min_eq_right z]; exact List.mem_cons_self)
      · exact .inr (List.mem_cons_of_mem _ e)
    · show r.foldl min (min n x) ≤ y
      rcases List.mem_cons.mp hy with rfl | z
      · omega
      · exact h3 y z
theorem maxL_mem {ns : List Int} {m : Int} (h : maxL ns = some m) : m ∈ ns ∧ ∀ y ∈ ns, y ≤ m := by
  cases ns with
  | nil => cases h
  | cons n r =>
    cases h
    obtain ⟨h1, h2, h3⟩ := foldl_max_spec r n
    exact ⟨h1.elim (fun e => by rw [e]; exact List.mem_cons_self) (List.mem_cons_of_mem _), fun y hy => (List.mem_cons.mp hy).elim (fun e => e ▸ h2) (h3 y)⟩
theorem minL_mem {ns : List Int} {m : Int} (h : minL ns = some m) : m ∈ ns ∧ ∀ y ∈ ns, m ≤ y := by
  cases ns with
  | nil => cases h
  | cons n r =>
    cases h
    obtain ⟨h1, h2, h3⟩ := foldl_min_spec r n
    exact ⟨h1.elim (fun e => by rw [e]; exact List.mem_cons_self) (List.mem_cons_of_mem _), fun y hy => (List.mem_cons.mp hy).elim (fun e => e ▸ h2) (h3 y)⟩
section
variable {X : Cx}
abbrev rLenG (K : PySem.W.Frag) : List V → Hp → VK → Prop := fun xs H Q => ∃ x n, xs = [x] ∧ LenV K x H n ∧ Q (.int n) H
theorem vs_len : VSC (rLenG X.K) opLen := by
  intro fr W Φ σ H w Q vs ds A R h
  match ds, h with
  | [.lst l], h =>
    obtain ⟨v, rfl, q⟩ := pks1 R
    obtain ⟨a, xs, rfl, ha, ra⟩ := pk_lst A.good.sub q
    exact ⟨_, l.length, rfl, .inl ⟨xs, .inl (.inl ha), ra.length.symm⟩, ans h A rfl (.int _)⟩
  | [.tup l], h =>
    obtain ⟨v, rfl, q⟩ := pks1 R
    obtain ⟨a, xs, rfl, ha, _, ra⟩ := pk_tup A.good.sub q
    exact ⟨_, l.length, rfl, .inr ⟨xs, .inl (.inl ha), ra.length.symm⟩, ans h A rfl (.int _)⟩
theorem vs_abs : VSC (fun xs H Q => ∃ i, xs = [.int i] ∧ Q (.int (if i < 0 then -i else i)) H) opAbs := by
  intro fr W Φ σ H w Q vs ds A R h
  match ds, h with
  | [.int i], h =>
    obtain ⟨v, rfl, q⟩ := pks1 R
    exact ⟨i, by rw [pk_int q], ans h A rfl (.int _)⟩
theorem vs_int1 : VSC (fun xs H Q => (∃ i, xs = [.int i] ∧ Q (.int i) H) ∨ ∃ k, xs = [.bl k] ∧ Q (.int (if k then 1 else 0)) H) opInt := by
  intro fr W Φ σ H w Q vs ds A R h
  match ds, h with
  | [.int i], h =>
    obtain ⟨v, rfl, q⟩ := pks1 R
    exact .inl ⟨i, by rw [pk_int q], ans h A rfl (.int _)⟩
  | [.bl k], h =>
    obtain ⟨v, rfl, q⟩ := pks1 R
    exact .inr ⟨k, by rw [pk_bl q], ans h A rfl (.int _)⟩
theorem vs_sum : VSC (rSum X.K) opSum := by
  intro fr W Φ σ H w Q vs ds A R h
  match ds, h with
  | [.lst l], h =>
    obtain ⟨v, rfl, q⟩ := pks1 R
    obtain ⟨a, xs, rfl, ha, ra⟩ := pk_lst A.good.sub q
    cases e : intsOf l with
    | none => have e2 : opSum [.lst l] = none := by show (intsOf l).map _ = none; rw [e]; rfl
              rw [e2] at h; exact h.elim
    | some ns =>
      have e2 : opSum [.lst l] = some (.val (.int ns.sum)) := by show (intsOf l).map _ = _; rw [e]; rfl
      exact ⟨a, ns, rfl, by rw [← intsOf_reps ra e]; exact .inl (.inl ha), ans h A e2 (.int _)⟩
theorem vs_all : VSC (rAll X.K) opAll := by
  intro fr W Φ σ H w Q vs ds A R h
  match ds, h with
  | [.lst l], h =>
    obtain ⟨v, rfl, q⟩ := pks1 R
    obtain ⟨a, xs, rfl, ha, ra⟩ := pk_lst A.good.sub q
    cases e : boolsOf l with
    | none => have e2 : opAll [.lst l] = none := by show (boolsOf l).map _ = none; rw [e]; rfl
              rw [e2] at h; exact h.elim
    | some ns =>
      have e2 : opAll [.lst l] = some (.val (.bl (ns.all id))) := by show (boolsOf l).map _ = _; rw [e]; rfl
      exact ⟨a, ns, rfl, by rw [← boolsOf_reps ra e]; exact .inl (.inl ha), ans h A e2 (.bl _)⟩
theorem vs_any : VSC (rAny X.K) opAny := by
  intro fr W Φ σ H w Q vs ds A R h
  match ds, h with
  | [.lst l], h =>
    obtain ⟨v, rfl, q⟩ := pks1 R
    obtain ⟨a, xs, rfl, ha, ra⟩ := pk_lst A.good.sub q
    cases e : boolsOf l with
    | none => have e2 : opAny [.lst l] = none := by show (boolsOf l).map _ = none; rw [e]; rfl
              rw [e2] at h; exact h.elim
    | some ns =>
      have e2 : opAny [.lst l] = some (.val (.bl (ns.any id))) := by show (boolsOf l).map _ = _; rw [e]; rfl
      exact ⟨a, ns, rfl, by rw [← boolsOf_reps ra e]; exact .inl (.inl ha), ans h A e2 (.bl _)⟩
theorem CallR.or {f : Value} {r r' : List V → Hp → VK → Prop} (h : CallR X f r) (h' : CallR X f r') : CallR X f (fun x H Q => r x H Q ∨ r' x H Q) := fun pins s σ H xs us Q I rx q =>
  q.elim (h pins s σ H xs us Q I rx) (h' pins s σ H xs us Q I rx)
theorem le_unique {m m' : Int} {ns : List Int} (h1 : m ∈ ns ∧ ∀ y ∈ ns, y ≤ m) (h2 : m' ∈ ns) (h3 : ∀ y, y ∈ ns → y ≤ m') : m' = m := by
  have a := h1.2 m' h2
  have b := h3 m h1.1
  omega
theorem ge_unique {m m' : Int} {ns : List Int} (h1 : m ∈ ns ∧ ∀ y ∈ ns, m ≤ y) (h2 : m' ∈ ns) (h3 : ∀ y, y ∈ ns → m' ≤ y) : m' = m := by
  have a := h1.2 m' h2
  have b := h3 m h1.1
  omega
theorem vs_max : VSC (fun xs H Q => (∃ i j, xs = [.int i, .int j] ∧ Q (.int (if j > i then j else i)) H) ∨ rMax X.K xs H Q) opMax := by
  intro fr W Φ σ H w Q vs ds A R h
  match ds, h with
  | [.int i, .int j], h =>
    obtain ⟨v, v', rfl, q, q'⟩ := pks2 R
    exact .inl ⟨i, j, by rw [pk_int q, pk_int q'], ans h A rfl (.int _)⟩
  | [.lst l], h =>
    obtain ⟨v, rfl, q⟩ := pks1 R
    obtain ⟨a, xs, rfl, ha, ra⟩ := pk_lst A.good.sub q
    cases e : intsOf l with
    | none => have e2 : opMax [.lst l] = none := by show ((intsOf l).bind maxL).map _ = none; rw [e]; rfl
              rw [e2] at h; exact h.elim
    | some ns =>
      cases em : maxL ns with
      | none => have e2 : opMax [.lst l] = none := by show ((intsOf l).bind maxL).map _ = none; rw [e]; show (maxL ns).map _ = _; rw [em]; rfl
                rw [e2] at h; exact h.elim
      | some m =>
        have e2 : opMax [.lst l] = some (.val (.int m)) := by show ((intsOf l).bind maxL).map _ = _; rw [e]; show (maxL ns).map _ = _; rw [em]; rfl
        have mm := maxL_mem em
        refine .inr ⟨a, ns, rfl, by rw [← intsOf_reps ra e]; exact .inl (.inl ha), List.length_pos_of_mem mm.1, fun m' h1 h2 => ?_⟩
        rw [le_unique mm h1 h2]
        exact ans h A e2 (.int _)
theorem vs_min : VSC (fun xs H Q => (∃ i j, xs = [.int i, .int j] ∧ Q (.int (if j < i then j else i)) H) ∨ rMin X.K xs H Q) opMin := by
  intro fr W Φ σ H w Q vs ds A R h
  match ds, h with
  | [.int i, .int j], h =>
    obtain ⟨v, v', rfl, q, q'⟩ := pks2 R
    exact .inl ⟨i, j, by rw [pk_int q, pk_int q'], ans h A rfl (.int _)⟩
  | [.lst l], h =>
    obtain ⟨v, rfl, q⟩ := pks1 R
    obtain ⟨a, xs, rfl, ha, ra⟩ := pk_lst A.good.sub q
    cases e : intsOf l with
    | none => have e2 : opMin [.lst l] = none := by show ((intsOf l).bind minL).map _ = none; rw [e]; rfl
              rw [e2] at h; exact h.elim
    | some ns =>
      cases em : minL ns with
      | none => have e2 : opMin [.lst l] = none := by show ((intsOf l).bind minL).map _ = none; rw [e]; show (minL ns).map _ = _; rw [em]; rfl
                rw [e2] at h; exact h.elim
      | some m =>
        have e2 : opMin [.lst l] = some (.val (.int m)) := by show ((intsOf l).bind minL).map _ = _; rw [e]; show (minL ns).map _ = _; rw [em]; rfl
        have mm := minL_mem em
        refine .inr ⟨a, ns, rfl, by rw [← intsOf_reps ra e]; exact .inl (.inl ha), List.length_pos_of_mem mm.1, fun m' h1 h2 => ?_⟩
        rw [ge_unique mm h1 h2]
        exact ans h A e2 (.int _)
/-! ### list, tuple -/
def opList : List D → Option R
  | [.lst l] => some (.own (.lst l))
  | [.tup l] => some (.own (.lst l))
  | _ => none
def opTuple : List D → Option R
  | [.lst l] => some (.val (.tup l))
  | [.tup l] => some (.val (.tup l))
  | _ => none
theorem vs_list : VSC (fun xs H Q => ∃ p ys, xs = [.ref p] ∧ (SqL X.K H p ys ∨ SqT X.K H p ys) ∧ ∀ l, H l = none → Q (.ref l) (upd H l (.lst ys))) opList := by
  intro fr W Φ σ H w Q vs ds A R h
  match ds, h with
  | [.lst l], h =>
    obtain ⟨v, rfl, q⟩ := pks1 R
    obtain ⟨a, xs, rfl, ha, ra⟩ := pk_lst A.good.sub q
    exact ⟨a, xs, rfl, .inl (.inl (.inl ha)), fun p hp => ansNew h A rfl ra hp⟩
  | [.tup l], h =>
    obtain ⟨v, rfl, q⟩ := pks1 R
    obtain ⟨a, xs, rfl, ha, _, ra⟩ := pk_tup A.good.sub q
    exact ⟨a, xs, rfl, .inr (.inl (.inl ha)), fun p hp => ansNew h A rfl ra hp⟩
theorem vs_tuple : VSC (fun xs H Q => ∃ p ys, xs = [.ref p] ∧ ((SqL X.K H p ys ∧ ∀ l, H l = none → Q (.ref l) (upd H l (.tup ys))) ∨ (SqT X.K H p ys ∧ Q (.ref p) H))) opTuple := by
  intro fr W Φ σ H w Q vs ds A R h
  match ds, h with
  | [.lst l], h =>
    obtain ⟨v, rfl, q⟩ := pks1 R
    obtain ⟨a, xs, rfl, ha, ra⟩ := pk_lst A.good.sub q
    exact ⟨a, xs, rfl, .inl ⟨.inl (.inl ha), fun p hp => ansTup h A rfl ra hp⟩⟩
  | [.tup l], h =>
    obtain ⟨v, rfl, q⟩ := pks1 R
    obtain ⟨a, xs, rfl, ha, hf, ra⟩ := pk_tup A.good.sub q
    exact ⟨a, xs, rfl, .inr ⟨.inl (.inl ha), ans h A rfl (.tup hf ra)⟩⟩
end
end DL
end

section
set_option Elab.async false
set_option linter.all false
set_option maxRecDepth 100000
set_option autoImplicit false
set_option maxHeartbeats 1000000
/-! DL11: isinstance, list(range), sorted, reversed slices. -/
namespace DL
open PySem PySem.Spec PyProof.Rows L2

/-! ### isinstance -/
inductive Ty where
  | int | bool | tuple | str | list
  deriving DecidableEq
def Ty.nm : Ty → String
  | .int => "int"
  | .bool => "bool"
  | .tuple => "tuple"
  | .str => "str"
  | .list => "list"
def Ty.all : List Ty := [.int, .bool, .tuple, .str, .list]
/-- the kind of a value -/
inductive Kd where
  | non | bl | int | str | tup | lst
def Kd.nm : Kd → String
  | .non => "NoneType"
  | .bl => "bool"
  | .int => "int"
  | .str => "str"
  | .tup => "tuple"
  | .lst => "list"
def kd : D → Option Kd
  | .non => some .non
  | .bl _ => some .bl
  | .int _ => some .int
  | .str _ => some .str
  | .tup _ => some .tup
  | .lst _ => some .lst
  | .scr _ => some .lst
  | _ => none
def isK : Ty → Kd → Bool
  | .int, .int => true
  | .int, .bl => true
  | .bool, .bl => true
  | .tuple, .tup => true
  | .str, .str => true
  | .list, .lst => true
  | _, _ => false
theorem kit_all (t : Ty) (k : Kd) : kitB k.nm t.nm = some (isK t k) := by
  cases t <;> cases k <;> decide +kernel
def opIsi (t : Ty) (d : D) : Option R := (kd d).map fun k => .val (.bl (isK t k))
def opIsis (ts : List Ty) (d : D) : Option R := (kd d).map fun k => .val (.bl (ts.any fun t => isK t k))
theorem ty_of {K : PySem.W.Frag} {H : Hp} {w : Wl} {v : V} {d : D} {k : Kd} (hs : ∀ a o, w.F a = some o → H a = some o) (R : Pk H w.F w.B v d) (e : kd d = some k) : TyX K H v (.type k.nm) := by
  cases R with
  | lst h _ r => cases e; exact .base (.lst h)
  | dK h _ r => cases e
  | rep R =>
    cases R with
    | non => cases e; exact .base .non
    | bl b => cases e; exact .base (.bl b)
    | int i => cases e; exact .base (.int i)
    | str x h => cases e; exact .base (.str x)
    | tup h r => cases e; exact .base (.tup (hs _ _ h))
    | lst h r => cases e; exact .base (.lst (hs _ _ h))
    | scr h ho =>
      cases e
      rcases ho with rfl | ⟨ob, rfl⟩
      · exact .base (.lst (hs _ _ h))
      · exact .base (.frz (hs _ _ h))
    | bag h => cases e
    | dK h r => cases e
theorem kitAny_all {K : PySem.W.Frag} {k : Kd} : ∀ ts : List Ty, PySem.W.kitAny K (.type k.nm) (ts.map fun t => Value.type t.nm) = some (ts.any fun t => isK t k)
  | [] => rfl
  | t :: r => by
    have e : PySem.W.kitOne K (.type k.nm) (.type t.nm) = some (isK t k) := kit_ty (kit_all t k)
    show (match PySem.W.kitOne K (.type k.nm) (.type t.nm) with
      | some true => some true
      | some false => PySem.W.kitAny K (.type k.nm) (r.map fun t => Value.type t.nm)
      | none => none) = some (isK t k || r.any fun t => isK t k)
    rw [e]
    cases isK t k with
    | true => rfl
    | false => exact (kitAny_all r).trans (by simp)
section
variable {C : Cs} {X : Cx} {fr : Fr} {W : WX} {Φ : PhiT} {pos p p2 : Pos} {e : Expr} {m : M R}
theorem pe_tyN (c : CtxOk C X fr W Φ) (t : Ty) (hg : C.sc.names.lookup (Str.ofString t.nm) = some .globalImplicit) : PE X (.Name (Str.ofString t.nm) p2) (tC (.ty t.nm)) := by
  refine pe_bltn (show X.env.scope.names.lookup _ = _ by rw [c.sc]; exact hg) (c.free _ (by cases t <;> decide)) (u := .type t.nm) ?_ rfl (by cases t <;> decide) (by cases t <;> decide)
  cases t
  · exact PyProof.Rows.boot_int
  · exact (by decide +kernel : bootBuiltins "bool" = some (.type "bool"))
  · exact PyProof.Rows.boot_tuple
  · exact (by decide +kernel : bootBuiltins "str" = some (.type "str"))
  · exact PyProof.Rows.boot_list
theorem pe_isi (c : CtxOk C X fr W Φ) (t : Ty) (hg : C.sc.names.lookup ("isinstance" : Str) = some .globalImplicit) (ht : C.sc.names.lookup (Str.ofString t.nm) = some .globalImplicit) (h : PE X e (LE fr W Φ m))
    (he : ∀ es, starEach (e :: es) X.env = (false, eval e X.env) :: starEach es X.env) :
    PE X (.Call (.Name "isinstance" p) [e, .Name (Str.ofString t.nm) p2] [] pos) (LE fr W Φ (mOp1 (opIsi t) m)) := by
  refine PE.imp (pe_callB call_isi (show X.env.scope.names.lookup _ = _ by rw [c.sc]; exact hg) (c.free _ (by decide)) PyProof.Rows.boot_isinstance (pa_cons (pe_opd h) (pa_cons (pe_tyN c t ht) pa_nil) (he _)) (by decide) (by decide) (he _) (by rfl)) fun σ H Q ⟨w, A, r⟩ => ⟨w, A, (ResG.bind (Rel' := RelP) antiR r).imp ?_⟩
  rintro x H1 ⟨d, w1, A1, N1, R1, h1⟩
  show ∃ (x' c' : V) (t' u' : Value) (b : Bool), [x, V.ty t.nm] = [x', c'] ∧ ClsV c' u' ∧ TyX X.K H1 x' t' ∧ PySem.W.kitOne X.K t' u' = some b ∧ Q (.bl b) H1
  cases ek : kd d with
  | none =>
    have e2 : opIsi t d = none := by unfold opIsi; rw [ek]; rfl
    rw [e2] at h1; exact h1.elim
  | some k =>
    have e2 : opIsi t d = some (.val (.bl (isK t k))) := by unfold opIsi; rw [ek]; rfl
    exact ⟨x, .ty t.nm, _, _, _, rfl, .ty _, ty_of A1.good.sub R1 ek, kit_ty (kit_all t k), ans h1 A1 e2 (.bl _)⟩
end
/-! ### list(range(..)) -/
def opLrg (a b : Int) : Option R := if -(2 ^ 62) ≤ a ∧ a < 2 ^ 62 ∧ -(2 ^ 62) ≤ b ∧ b < 2 ^ 62 ∧ (b - a).toNat ≤ lim then some (.own (.lst (rangeD a (b - a).toNat))) else none
def opLr1 : D → Option R
  | .int j => opLrg 0 j
  | _ => none
theorem rgV_reps {F : Hp} {B : List Addr} (a b : Int) : Reps F B (rgV a b) (rangeD a (b - a).toNat) := by
  unfold rgV rangeD
  generalize (b - a).toNat = n
  have key : ∀ l : List Nat, Reps F B (l.map fun i => V.int (a + (i : Nat))) (l.map fun (i : Nat) => D.int (a + i)) := by
    intro l
    induction l with
    | nil => exact .nil
    | cons x r ih => exact .cons (.int _) ih
  exact key _
section
variable {C : Cs} {X : Cx} {fr : Fr} {W : WX} {Φ : PhiT} {pos p p2 pos2 : Pos} {e : Expr} {m : M R}
theorem pe_listRange (c : CtxOk C X fr W Φ) (hg : C.sc.names.lookup ("list" : Str) = some .globalImplicit) (hr : C.sc.names.lookup ("range" : Str) = some .globalImplicit) (h : PE X e (LE fr W Φ m)) (he : starEach [e] X.env = (false, eval e X.env) :: starEach [] X.env)  :
    PE X (.Call (.Name "list" p) [.Call (.Name "range" p2) [e] [] pos2] [] pos) (LE fr W Φ (mOp1 opLr1 m)) := by
  refine PE.imp (pe_listRg c.calm (show X.env.scope.names.lookup _ = _ by rw [c.sc]; exact hg) (c.free _ (by decide)) (prg_1 (show X.env.scope.names.lookup _ = _ by rw [c.sc]; exact hr) (c.free _ (by decide)) (pe_opd h) he)) fun σ H Q ⟨w, A, r⟩ => ⟨w, A, (ResG.bind (Rel' := RelP) antiR r).imp ?_⟩
  rintro x H1 ⟨d, w1, A1, N1, R1, h1⟩
  cases d <;> first | exact h1.elim | skip
  rename_i j
  by_cases hc : -(2 ^ 62) ≤ (0 : Int) ∧ (0 : Int) < 2 ^ 62 ∧ -(2 ^ 62) ≤ j ∧ j < 2 ^ 62 ∧ (j - 0).toNat ≤ lim
  · obtain ⟨c1, c2, c3, c4, c5⟩ := id hc
    exact ⟨j, pk_int R1, ⟨c1, c2, c3, c4, Nat.le_trans c5 (by decide)⟩, fun q hq => ansNew h1 A1 (if_pos hc) (rgV_reps 0 j) hq⟩
  · have e2 : opLr1 (.int j) = none := if_neg hc
    rw [e2] at h1; exact h1.elim
end
/-! ### sorted -/
def sortD (l : List D) : List D := l.mergeSort fun a b => PySem.W.dataLe false toPy a b
def alikeB (l : List D) : Bool := l.all fun a => l.all fun b => PySem.W.alike (toPy a) (toPy b)
def isTup1 : D → Bool
  | .tup (_ :: _) => true
  | _ => false
def isTup0 : D → Bool
  | .tup _ => true
  | .non => true
  | _ => false
def sortableB (l : List D) : Bool := l.all isTup1 || l.all fun a => !isTup0 a
def opSorted : List D → Option R
  | [.lst l] => if plains l = true ∧ alikeB l = true ∧ sortableB l = true ∧ l.length ≤ lim ∧ (∀ d ∈ l, (toPy d).depth ≤ 60) then some (.own (.lst (sortD l))) else none
  | _ => none
theorem toPys_map : ∀ l : List D, toPys l = l.map toPy
  | [] => rfl
  | d :: r => by show toPy d :: toPys r = _; rw [toPys_map r]; rfl
def rSortG (K : PySem.W.Frag) : List V → Hp → VK → Prop := fun vs H Q => ∃ (a : Addr) (ps : List (V × D)), vs = [V.ref a] ∧ SqL K H a (ps.map (·.1)) ∧ (∀ p ∈ ps, Dp K H p.1 (toPy p.2)) ∧
  PySem.W.AllAlike (ps.map fun p => toPy p.2) ∧ PySem.W.Sortable (ps.map fun p => toPy p.2) ∧ ps.length ≤ lim ∧ (∀ p ∈ ps, (toPy p.2).depth ≤ 60) ∧
  ∀ q, H q = none → Q (.ref q) (upd H q (.lst ((ps.mergeSort (PySem.W.dataLe false fun p => toPy p.2)).map (·.1))))
theorem each_of {X : Cx} {pins : List (Addr × Obj)} {σ : L2.St} {H : Hp} {s : Shared} (I : Inv X pins σ H s) : ∀ {ps : List (V × D)} {its : List Value}, Vals (ps.map (·.1)) its → (∀ p ∈ ps, Dp X.K H p.1 (toPy p.2)) →
    PySem.W.EachIs (fun (u : Value) (p : V × D) => RelV p.1 u) its ps ∧ PySem.W.EachIs (fun (u : Value) (p : V × D) => ∃ as, Reads s.heap u (toPy p.2) as) its ps
  | [], _, .nil, _ => ⟨.nil, .nil⟩
  | p :: ps, _, .cons r t, h => by
    obtain ⟨a, b⟩ := each_of I t fun q hq => h q (List.mem_cons_of_mem _ hq)
    exact ⟨.cons r a, .cons (Dp.reads I _ _ _ (h p List.mem_cons_self) r) b⟩
theorem each_vals : ∀ {ps : List (V × D)} {its : List Value}, PySem.W.EachIs (fun (u : Value) (p : V × D) => RelV p.1 u) its ps → Vals (ps.map (·.1)) its
  | _, _, .nil => .nil
  | _, _, .cons r t => .cons r (each_vals t)
theorem cr_sortG {X : Cx} (hu : X.A.units + 70 < cLine) : CallR X (.builtin "sorted") (rSortG X.K) := by
  intro pins s σ H vs us Q I r h
  obtain ⟨a, ps, rfl, hs, hd, h1, h2, h3, h4, q⟩ := h
  obtain ⟨its, rv, hl, _⟩ := I.list hs
  rw [Vals.ref1 r]
  obtain ⟨e1, e2⟩ := each_of I rv hd
  refine PySem.W.sorted_data (enc := fun p : V × D => toPy p.2) hl.isList e1 e2 h1 h2 (lim_le h3) (fun b hb => by have := h4 b hb; omega) fun out ho eo => ?_
  obtain ⟨ep, he'⟩ := PyProof.Rows.sortedAll_at s.heap its out.toArray
  have hlen : ((ps.mergeSort (PySem.W.dataLe false fun p => toPy p.2)).map (·.1)).length ≤ sizeLine := by rw [List.length_map, List.length_mergeSort]; exact lim_le h3
  exact ⟨.ref _, upd H (s.heap.objs.size + 1) (.lst ((ps.mergeSort (PySem.W.dataLe false fun p => toPy p.2)).map (·.1))), I.laid (t' := s.toks) (fun _ _ => PyProof.Rows.sortedAll_old) (Nat.le_succ _) ⟨hlen, out, ep, each_vals eo, he'⟩, rfl, q _ (I.hok.fresh (Nat.le_succ _))⟩
theorem reps_zip {F : Hp} {B : List Addr} : ∀ {xs : List V} {l : List D}, Reps F B xs l → (xs.zip l).map (·.1) = xs ∧ (xs.zip l).map (·.2) = l ∧ ∀ p ∈ xs.zip l, Rep F B p.1 p.2
  | _, _, .nil => ⟨rfl, rfl, fun p h => by cases h⟩
  | _, _, .cons h r => by
    obtain ⟨a, b, c⟩ := reps_zip r
    refine ⟨by rw [List.zip_cons_cons, List.map_cons, a], by rw [List.zip_cons_cons, List.map_cons, b], fun p hp => ?_⟩
    rw [List.zip_cons_cons] at hp
    rcases List.mem_cons.mp hp with rfl | z
    · exact h
    · exact c p z
theorem zip_reps {F : Hp} {B : List Addr} : ∀ {ps : List (V × D)}, (∀ p ∈ ps, Rep F B p.1 p.2) → Reps F B (ps.map (·.1)) (ps.map (·.2))
  | [], _ => .nil
  | p :: ps, h => .cons (h p List.mem_cons_self) (zip_reps fun q hq => h q (List.mem_cons_of_mem _ hq))
theorem plain_mem : ∀ {l : List D} {d : D}, plains l = true → d ∈ l → plain d = true
  | _ :: _, _, p, .head _ => (Bool.and_eq_true_iff.mp p).1
  | _ :: _, _, p, .tail _ h => plain_mem (Bool.and_eq_true_iff.mp p).2 h
theorem vs_sorted {X : Cx} : VSC (rSortG X.K) opSorted := by
  intro fr W Φ σ H w Q vs ds A R h
  match ds, h with
  | [.lst l], h =>
    obtain ⟨v, rfl, q⟩ := pks1 R
    obtain ⟨a, xs, rfl, ha, ra⟩ := pk_lst A.good.sub q
    by_cases c : plains l = true ∧ alikeB l = true ∧ sortableB l = true ∧ l.length ≤ lim ∧ (∀ d ∈ l, (toPy d).depth ≤ 60)
    · obtain ⟨c1, c2, c3, c4, c5⟩ := id c
      obtain ⟨z1, z2, z3⟩ := reps_zip ra
      have mem2 : ∀ p ∈ xs.zip l, p.2 ∈ l := fun p hp => by rw [← z2]; exact List.mem_map_of_mem hp
      have e2 : (xs.zip l).map (fun p => toPy p.2) = l.map toPy := by rw [← z2, List.map_map]; rw [z2]; rfl
      refine ⟨a, xs.zip l, rfl, by rw [z1]; exact .inl (.inl ha), fun p hp => (z3 p hp).dp X.K A.good.sub (plain_mem c1 (mem2 p hp)), ?_, ?_, ?_, fun p hp => c5 _ (mem2 p hp), fun p hp => ?_⟩
      · rw [e2]
        intro d hd d' hd'
        obtain ⟨x, hx, rfl⟩ := List.mem_map.mp hd
        obtain ⟨y, hy, rfl⟩ := List.mem_map.mp hd'
        exact List.all_eq_true.mp (List.all_eq_true.mp c2 x hx) y hy
      · rw [e2]
        have c3' : l.all isTup1 = true ∨ (l.all fun a => !isTup0 a) = true := Bool.or_eq_true_iff.mp c3
        rcases c3' with c | c
        · refine .inl fun d hd => ?_
          obtain ⟨x, hx, rfl⟩ := List.mem_map.mp hd
          have := List.all_eq_true.mp c x hx
          match x, this with
          | .tup (y :: r), _ => exact ⟨toPy y, toPys r, rfl⟩
        · refine .inr fun d hd => ?_
          obtain ⟨x, hx, rfl⟩ := List.mem_map.mp hd
          have := List.all_eq_true.mp c x hx
          cases x <;> first | exact absurd this Bool.false_ne_true | exact ⟨fun z => (by cases z), fun xs z => (by cases z)⟩
      · rw [List.length_zip]
        omega
      · have e3 : ((xs.zip l).mergeSort (PySem.W.dataLe false fun p => toPy p.2)).map (·.2) = sortD l := by
          have q3 := List.map_mergeSort (r := PySem.W.dataLe false fun p : V × D => toPy p.2) (s := PySem.W.dataLe false toPy) (f := fun p : V × D => p.2) (l := xs.zip l) (fun x _ y _ => rfl)
          exact q3.trans (by rw [z2]; rfl)
        have r3 : Reps w.F w.B (((xs.zip l).mergeSort (PySem.W.dataLe false fun p => toPy p.2)).map (·.1)) (sortD l) := by
          rw [← e3]
          exact zip_reps fun p hp => z3 p ((List.mergeSort_perm _ _).mem_iff.mp hp)
        exact ansNew h A (if_pos c) r3 hp
    · have e2 : opSorted [.lst l] = none := if_neg c
      rw [e2] at h; exact h.elim
end DL
end

section
set_option Elab.async false
set_option linter.all false
set_option maxRecDepth 100000
set_option autoImplicit false
set_option maxHeartbeats 1000000
/-! DL12: flat results give own lists back; bags: lists of ints that all may change. -/
namespace DL
open PySem PySem.Spec PyProof.Rows L2

/-! ### flat results -/
def flat : R → Bool
  | .val .non => true
  | .val (.bl _) => true
  | .val (.int _) => true
  | .val (.str _) => true
  | _ => false
def mFlat (m : M R) : M R := fun Φ s => (m Φ s).bind fun r s1 => if flat r = true then .ok r { s1 with ρ := s.ρ } else .no
section
variable {fr : Fr} {W : WX} {Φ : PhiT} {σ : L2.St} {H H' : Hp} {w w' : Wl}
def Wl.reset (w w' : Wl) : Wl := ⟨w.F, w'.B, w'.S, w.ρ⟩
theorem At.reset (A : At fr σ H w) (A' : At fr σ H' w') (n : Nx σ H w H' w') : At fr σ H' (w.reset w') ∧ Nx σ H w H' (w.reset w') := by
  have nb : ∀ a o, H a = some o → a ∉ w.B → a ∉ w'.B := fun a o h h1 z => by
    obtain ⟨C, e, hC⟩ := n.bags
    rw [e] at z
    rcases List.mem_append.mp z with z | z
    · exact h1 z
    · rw [hC a z] at h; cases h
  refine ⟨⟨⟨fun a o h => A'.good.sub a o (n.sub a o h), A.good.fn, A'.good.tab, A'.good.nd, fun a ha => ?_, A'.good.bag⟩, ⟨A'.stp.keep, A.stp.sub, A'.stp.bags, fun a o h => A.stp.fz a o h, A'.stp.there⟩, ⟨fun i d h => ?_, fun i c h => ?_, A.slots.inj, A.slots.len⟩⟩, ⟨n.keep, fun _ _ h => h, n.bags, fun _ _ h => .inl h, n.there, fun _ h => h⟩⟩
  · cases e : w.F a with
    | none => exact e
    | some o => have z := n.sub a o e; rw [A'.good.fb a ha] at z; cases z
  · obtain ⟨v, h1, h2⟩ := A.slots.val i d h
    exact ⟨v, h1, h2.mono (fun _ _ h => h) n.bmono⟩
  · obtain ⟨a, h1, h2, h3, h4, o, z1, z2⟩ := A.slots.own i c h
    exact ⟨a, h1, h2, h3, nb a o z1 h4, o, n.keep a o z1 z2.nt h4, z2.mono (fun _ _ h => h) n.bmono⟩
theorem rep_flat {F F' : Hp} {B B' : List Addr} {v : V} {d : D} (h : flat (.val d) = true) (r : Rep F B v d) : Rep F' B' v d := by
  cases r with
  | non => exact .non
  | bl b => exact .bl b
  | int i => exact .int i
  | str x hx => exact .str x hx
  | _ => cases h
theorem flat_look {m : M R} {Q : VK} (h : LE fr W Φ (mFlat m) σ H Q) : LE fr W Φ m σ H Q := by
  obtain ⟨w, A, r⟩ := h
  refine ⟨w, A, ?_⟩
  have r' : ResG fr W σ H w (RelR σ) Q ((m Φ ⟨w.ρ, w.S⟩).bind fun r s1 => if flat r = true then .ok r { s1 with ρ := w.ρ } else .no) := r
  generalize m Φ ⟨w.ρ, w.S⟩ = o at r' ⊢
  cases o with
  | no => exact r'
  | ex x s => exact r'
  | ok r s =>
    intro v H1 w1 e1 e2 A1 N1 R1
    have r2 : ResG fr W σ H w (RelR σ) Q (if flat r = true then .ok r { s with ρ := w.ρ } else .no) := r'
    by_cases hf : flat r = true
    · rw [if_pos hf] at r2
      obtain ⟨A2, N2⟩ := A.reset A1 N1
      refine r2 v H1 (w.reset w1) rfl e2 A2 N2 ?_
      cases r with
      | val d => exact rep_flat hf R1
      | own c => cases hf
      | bor d => cases hf
    · rw [if_neg hf] at r2; exact r2.elim
theorem pe_flat {X : Cx} {e : Expr} {m : M R} (h : PE X e (LE fr W Φ m)) : PE X e (LE fr W Φ (mFlat m)) := PE.imp h fun _ _ _ q => flat_look q
end
/-! ### bags -/
theorem map_erase {α β : Type} {f : α → β} : ∀ (l : List α) (i : Nat), (l.map f).eraseIdx i = (l.eraseIdx i).map f
  | [], _ => rfl
  | _ :: _, 0 => rfl
  | x :: l, i + 1 => by
    show f x :: (l.map f).eraseIdx i = f x :: (l.eraseIdx i).map f
    rw [map_erase l i]
theorem paired_get {α β : Type} {F : α → β → Prop} : ∀ {l₁ : List α} {l₂ : List β} {i : Nat} {a : α}, Paired F l₁ l₂ → l₁[i]? = some a → ∃ b, l₂[i]? = some b ∧ F a b
  | _, _, _, _, .nil, e => by simp at e
  | _, _, 0, _, .cons h _, e => by simp at e; subst e; exact ⟨_, rfl, h⟩
  | _, _, i + 1, a, .cons _ r, e => by
    obtain ⟨b, h1, h2⟩ := paired_get (i := i) (a := a) r (by simpa using e)
    exact ⟨b, by simpa using h1, h2⟩
theorem paired_len {α β : Type} {F : α → β → Prop} : ∀ {l₁ : List α} {l₂ : List β}, Paired F l₁ l₂ → l₁.length = l₂.length
  | _, _, .nil => rfl
  | _, _, .cons _ r => by simp [paired_len r]
section
variable {fr : Fr} {W : WX} {Φ : PhiT} {σ : L2.St} {H H' : Hp} {w w' : Wl}
/-- the bag as it stands -/
theorem Good.at_bag {T : List (Addr × Str)} (g : Good T H w) {n : Nat} {a : Addr} (h : w.B[n]? = some a) : ∃ ns, w.S[n]? = some ns ∧ H a = some (.lst (ns.map V.int)) := paired_get g.bag h
theorem pk_bag {v : V} {n : Nat} (R : Pk H w.F w.B v (.bag n)) : ∃ a, v = .ref a ∧ w.B[n]? = some a := by
  cases R with | rep R => cases R with | bag h => exact ⟨_, rfl, h⟩
/-- the bag is written -/
def Wl.bagSet (w : Wl) (n : Nat) (ns : List Int) : Wl := { w with S := w.S.set n ns }
theorem At.bagSet (A : At fr σ H w) {n : Nat} {a : Addr} {ns : List Int} (h : w.B[n]? = some a) : At fr σ (upd H a (.lst (ns.map V.int))) (w.bagSet n ns) ∧ Nx σ H w (upd H a (.lst (ns.map V.int))) (w.bagSet n ns) := by
  have ha : a ∈ w.B := List.mem_of_getElem? h
  have fa := A.good.fb a ha
  have ne : ∀ {x : Addr} {u : HO}, w.F x = some u → x ≠ a := fun q z => by rw [z, fa] at q; cases q
  obtain ⟨ns0, _, ob⟩ := A.good.at_bag h
  have there : ∀ x o, (∃ o', H x = some o') → upd H a (.lst (ns.map V.int)) x = some o ∨ ∃ o', upd H a (.lst (ns.map V.int)) x = some o' := fun x o ⟨o', e⟩ => by
    by_cases z : x = a
    · exact .inr ⟨_, by rw [z]; exact upd_same⟩
    · exact .inr ⟨o', by rw [upd_ne z]; exact e⟩
  refine ⟨⟨⟨fun x u q => by rw [upd_ne (ne q)]; exact A.good.sub x u q, A.good.fn, tabs_upd A.good.tab ob nx_lst, A.good.nd, A.good.fb, ?_⟩, ⟨fun x u q hn nb no => ?_, A.stp.sub, A.stp.bags, A.stp.fz, fun x u q => ?_⟩, ⟨A.slots.val, fun i c q => ?_, A.slots.inj, A.slots.len⟩⟩, ⟨fun x u q hn nb => ?_, fun _ _ h => h, ⟨[], by show w.B = w.B ++ []; simp, by simp⟩, fun _ _ h => .inl h, fun x u q => ?_, fun _ h => h⟩⟩
  · have key : ∀ {B : List Addr} {S : Store} {n : Nat}, B.Nodup → B[n]? = some a → Paired (fun a ns => H a = some (.lst ((ns : List Int).map V.int))) B S → Paired (fun x ms => upd H a (.lst (ns.map V.int)) x = some (.lst ((ms : List Int).map V.int))) B (S.set n ns) := by
      intro B S n hn hb q
      induction q generalizing n with
      | nil => simp at hb
      | @cons x ms l1 l2 q t ih =>
        obtain ⟨h1, h2⟩ := List.nodup_cons.mp hn
        cases n with
        | zero =>
          simp at hb
          subst hb
          refine .cons upd_same ?_
          have key2 : ∀ {B : List Addr} {S : Store}, x ∉ B → Paired (fun a ns => H a = some (.lst ((ns : List Int).map V.int))) B S → Paired (fun y ms => upd H x (.lst (ns.map V.int)) y = some (.lst ((ms : List Int).map V.int))) B S := by
            intro B S hx q
            induction q with
            | nil => exact .nil
            | @cons y ks l1 l2 q _ ih =>
              rw [List.mem_cons, not_or] at hx
              exact .cons (by rw [upd_ne (Ne.symm hx.1)]; exact q) (ih hx.2)
          exact key2 h1 t
        | succ n =>
          have hb' : l1[n]? = some a := by simpa using hb
          have xa : x ≠ a := fun z => h1 (z ▸ List.mem_of_getElem? hb')
          exact .cons (by rw [upd_ne xa]; exact q) (ih h2 hb')
    exact key A.good.nd h A.good.bag
  · have xa : x ≠ a := fun z => by
      obtain ⟨C, e, hC⟩ := A.stp.bags
      rw [e] at ha
      rcases List.mem_append.mp ha with y | y
      · exact nb (z ▸ y)
      · rw [z, hC a y] at q; cases q
    rw [upd_ne xa]; exact A.stp.keep x u q hn nb no
  · obtain ⟨o', z⟩ := A.stp.there x u q
    exact (there x o' ⟨o', z⟩).elim (fun e => ⟨_, e⟩) id
  · obtain ⟨x, e1, e2, e3, e4, o, z1, z2⟩ := A.slots.own i c q
    have xa : x ≠ a := fun z => e4 (z ▸ ha)
    exact ⟨x, e1, e2, e3, e4, o, by rw [upd_ne xa]; exact z1, z2⟩
  · have xa : x ≠ a := fun z => nb (z ▸ ha)
    rw [upd_ne xa]; exact q
  · exact (there x u ⟨u, q⟩).elim (fun e => ⟨_, e⟩) id
/-- a list of one's own becomes a bag -/
def mBag (m : M R) : M R := fun Φ s => (m Φ s).bind fun r s1 => match r with
  | .own (.lst l) => (match intsOf l with
    | some ns => .ok (.val (.bag s1.S.length)) { s1 with S := s1.S ++ [ns] }
    | none => .no)
  | _ => .no
theorem At.bagNew (A : At fr σ H w) {a : Addr} {ns : List Int} (h0 : fr.H0 a = none) (hf : w.F a = none) (hb : a ∉ w.B) (ho : ¬ Own σ w.ρ a) (h : H a = some (.lst (ns.map V.int))) : At fr σ H { w with B := w.B ++ [a], S := w.S ++ [ns] } := by
  have bm : ∀ (i : Nat) (x : Addr), w.B[i]? = some x → (w.B ++ [a])[i]? = some x := fun i x q => by
    rw [List.getElem?_append_left (List.getElem?_eq_some_iff.mp q).1]; exact q
  refine ⟨⟨A.good.sub, A.good.fn, A.good.tab, ?_, fun x hx => ?_, ?_⟩, ⟨A.stp.keep, A.stp.sub, ?_, A.stp.fz, A.stp.there⟩, ⟨fun i d q => ?_, fun i c q => ?_, A.slots.inj, A.slots.len⟩⟩
  · refine List.nodup_append.mpr ⟨A.good.nd, by simp, fun x hx y hy => ?_⟩
    simp at hy
    subst hy
    exact fun e => hb (e ▸ hx)
  · rcases List.mem_append.mp hx with z | z
    · exact A.good.fb x z
    · simp at z; subst z; exact hf
  · exact Paired.snoc A.good.bag h
  · obtain ⟨C, e, hC⟩ := A.stp.bags
    refine ⟨C ++ [a], by show w.B ++ [a] = _; rw [e, List.append_assoc], fun c hc => ?_⟩
    rcases List.mem_append.mp hc with z | z
    · exact hC c z
    · simp at z; subst z; exact h0
  · obtain ⟨v, h1, h2⟩ := A.slots.val i d q
    exact ⟨v, h1, h2.mono (fun _ _ h => h) bm⟩
  · obtain ⟨x, e1, e2, e3, e4, o, z1, z2⟩ := A.slots.own i c q
    refine ⟨x, e1, e2, e3, fun z => ?_, o, z1, z2.mono (fun _ _ h => h) bm⟩
    rcases List.mem_append.mp z with z | z
    · exact e4 z
    · simp at z; subst z; exact ho ⟨i, c, q, e1⟩
theorem pe_bag {X : Cx} {e : Expr} {m : M R} (h : PE X e (LE fr W Φ m)) : PE X e (LE fr W Φ (mBag m)) := by
  refine PE.imp h fun σ H Q ⟨w, A, r⟩ => ⟨w, A, ?_⟩
  have r' : ResG fr W σ H w (RelR σ) Q ((m Φ ⟨w.ρ, w.S⟩).bind fun r s1 => match r with
    | .own (.lst l) => (match intsOf l with
      | some ns => .ok (.val (.bag s1.S.length)) { s1 with S := s1.S ++ [ns] }
      | none => .no)
    | _ => .no) := r
  generalize m Φ ⟨w.ρ, w.S⟩ = o at r' ⊢
  cases o with
  | no => exact r'
  | ex x s => exact r'
  | ok r s =>
    intro v H1 w1 e1 e2 A1 N1 R1
    cases r with
    | val d => exact r'.elim
    | bor d => exact r'.elim
    | own c =>
      cases c with
      | dct l => exact r'.elim
      | lst l =>
        have r2 : ResG fr W σ H w (RelR σ) Q (match intsOf l with
          | some ns => .ok (.val (.bag s.S.length)) { s with S := s.S ++ [ns] }
          | none => .no) := r'
        cases ei : intsOf l with
        | none => rw [ei] at r2; exact r2.elim
        | some ns =>
          rw [ei] at r2
          obtain ⟨a, rfl, h1, h2, h3, h4, o, z1, z2⟩ := R1
          cases z2 with
          | lst z2 =>
            have ex := intsOf_reps z2 ei
            subst ex
            have A2 := A1.bagNew (none_back A.stp.there h1) h2 h3 h4 z1
            have hl : w1.B.length = s.S.length := by rw [← e2]; exact paired_len A1.good.bag
            refine r2 (.ref a) H1 { w1 with B := w1.B ++ [a], S := w1.S ++ [ns] } e1 (by show w1.S ++ [ns] = s.S ++ [ns]; rw [e2]) A2 ?_ ?_
            · refine ⟨N1.keep, N1.sub, ?_, N1.fz, N1.there, N1.own⟩
              obtain ⟨C, e, hC⟩ := N1.bags
              refine ⟨C ++ [a], by show w1.B ++ [a] = _; rw [e, List.append_assoc], fun c hc => ?_⟩
              rcases List.mem_append.mp hc with z | z
              · exact hC c z
              · simp at z; subst z; exact h1
            · refine .bag ?_
              show (w1.B ++ [a])[s.S.length]? = some a
              rw [← hl]; simp
end
/-! ### looks that may be at bags -/
def opIxS (S : Store) (d i : D) : Option R := match d, i with
  | .bag n, .int i => (match S[n]? with
    | some ns => (atI ns i).map fun k => .val (.int k)
    | none => none)
  | d, i => opIx d i
def mIxS (a b : M R) : M R := fun Φ s => (mOpd a Φ s).bind fun x s1 => (mOpd b Φ s1).bind fun y s2 => ofO (opIxS s2.S x y) Φ s2
def opLenS (S : Store) (d : D) : Option R := match d with
  | .bag n => (match S[n]? with
    | some ns => some (.val (.int (ns.length : Nat)))
    | none => none)
  | d => opLen [d]
def mLenS (a : M R) : M R := fun Φ s => (mOpd a Φ s).bind fun x s1 => ofO (opLenS s1.S x) Φ s1
section
variable {C : Cs} {X : Cx} {fr : Fr} {W : WX} {Φ : PhiT} {pos p : Pos} {a b e : Expr} {ma mb m : M R}
theorem pe_ixS (ha : PE X a (LE fr W Φ ma)) (hb : PE X b (LE fr W Φ mb)) (hs : PlainIx b) : PE X (.Subscript a b pos) (LE fr W Φ (mIxS ma mb)) := by
  refine PE.imp (pe_ix (IxR.or ix_list ix_tup) (pe_opd ha) (pe_opd hb) hs) fun σ H Q ⟨w, A, h⟩ => ⟨w, A, (ResG.bind (Rel' := RelP) antiR h).imp ?_⟩
  rintro x H1 ⟨d1, w1, A1, N1, R1, h1⟩
  refine ⟨w1, A1, (ResG.bind (Rel' := RelP) antiR h1).imp ?_⟩
  rintro y H2 ⟨d2, w2, A2, N2, R2, h2⟩
  have R1' := N2.pk R1
  by_cases hb : ∃ n i, d1 = .bag n ∧ d2 = .int i
  · obtain ⟨n, i, rfl, rfl⟩ := hb
    obtain ⟨z, rfl, hz⟩ := pk_bag R1'
    obtain ⟨ns, h3, h4⟩ := A2.good.at_bag hz
    cases ek : atI ns i with
    | none =>
      have e2 : opIxS w2.S (.bag n) (.int i) = none := by
        show (match w2.S[n]? with
          | some ns => (atI ns i).map fun k => R.val (.int k)
          | none => none) = none
        rw [h3]; show (atI ns i).map _ = none; rw [ek]; rfl
      have h2' : ResG fr W σ H2 w2 (RelR σ) Q (ofO (opIxS w2.S (.bag n) (.int i)) Φ ⟨w2.ρ, w2.S⟩) := h2
      rw [e2] at h2'; exact h2'.elim
    | some k =>
      have e2 : opIxS w2.S (.bag n) (.int i) = some (.val (.int k)) := by
        show (match w2.S[n]? with
          | some ns => (atI ns i).map fun k => R.val (.int k)
          | none => none) = _
        rw [h3]; show (atI ns i).map _ = _; rw [ek]; rfl
      refine .inl ⟨z, ns.map V.int, i, .int k, rfl, pk_int R2, .inl (.inl h4), ?_, ans (Φ := Φ) h2 A2 e2 (.int k)⟩
      unfold atI at ek ⊢
      rw [List.length_map]
      cases ej : ixN ns.length i with
      | none => rw [ej] at ek; cases ek
      | some j =>
        rw [ej] at ek
        have ek' : ns[j]? = some k := ek
        show (ns.map V.int)[j]? = some (V.int k)
        rw [List.getElem?_map, ek']; rfl
  · have e2 : opIxS w2.S d1 d2 = opIx d1 d2 := by
      cases d1 <;> first | rfl | skip
      cases d2 <;> first | rfl | skip
      exact absurd ⟨_, _, rfl, rfl⟩ hb
    have h2' : ResG fr W σ H2 w2 (RelR σ) Q (ofO (opIxS w2.S d1 d2) Φ ⟨w2.ρ, w2.S⟩) := h2
    rw [e2] at h2'
    exact vs_ix (X := X) fr W Φ σ H2 w2 Q x y d1 d2 A2 R1' R2 h2'
theorem pe_lenS (c : CtxOk C X fr W Φ) (hg : C.sc.names.lookup ("len" : Str) = some .globalImplicit) (h : PE X e (LE fr W Φ m)) (he : starEach [e] X.env = (false, eval e X.env) :: starEach [] X.env) :
    PE X (.Call (.Name "len" p) [e] [] pos) (LE fr W Φ (mLenS m)) := by
  refine PE.imp (pe_callB call_len (show X.env.scope.names.lookup _ = _ by rw [c.sc]; exact hg) (c.free _ (by decide)) PySem.boot_len (pa_cons (pe_opd h) pa_nil he) (by decide) (by decide) he (by rfl)) fun σ H Q ⟨w, A, r⟩ => ⟨w, A, (ResG.bind (Rel' := RelP) antiR r).imp ?_⟩
  rintro x H1 ⟨d, w1, A1, N1, R1, h1⟩
  have h1' : ResG fr W σ H1 w1 (RelR σ) Q (ofO (opLenS w1.S d) Φ ⟨w1.ρ, w1.S⟩) := h1
  by_cases hb : ∃ n, d = .bag n
  · obtain ⟨n, rfl⟩ := hb
    obtain ⟨z, rfl, hz⟩ := pk_bag R1
    obtain ⟨ns, h3, h4⟩ := A1.good.at_bag hz
    have e2 : opLenS w1.S (.bag n) = some (.val (.int (ns.length : Nat))) := by
      show (match w1.S[n]? with
        | some ns => some (R.val (.int (ns.length : Nat)))
        | none => none) = _
      rw [h3]
    exact ⟨_, ns.length, rfl, .inl ⟨ns.map V.int, .inl (.inl h4), by simp⟩, ans (Φ := Φ) h1' A1 e2 (.int _)⟩
  · have e2 : opLenS w1.S d = opLen [d] := by
      cases d <;> first | rfl | skip
      exact absurd ⟨_, rfl⟩ hb
    rw [e2] at h1'
    exact vs_len (X := X) fr W Φ σ H1 w1 Q [x] [d] A1 (.cons R1 .nil) h1'
end
/-! ### bags change -/
/-- x[i] = e -/
def mBagPut (x i : M R) (m : M R) : M Fl := fun Φ s => (mFrz m Φ s).bind fun v s1 => (mOpd x Φ s1).bind fun d s2 => (mOpd i Φ s2).bind fun k s3 => match v, d, k with
  | .int v, .bag n, .int k => (match s3.S[n]? with
    | some ns => (match ixN ns.length k with
      | some j => .ok .nx { s3 with S := s3.S.set n (ns.set j v) }
      | none => .no)
    | none => .no)
  | _, _, _ => .no
/-- x.pop(i) -/
def mBagPop (x i : M R) : M R := fun Φ s => (mOpd x Φ s).bind fun d s1 => match d with
  | .bag n => (mOpd i Φ s1).bind fun k s2 => (match k with
    | .int k => (match s2.S[n]? with
      | some ns => if 0 ≤ k ∧ k < ns.length ∧ ns.length ≤ lim then .ok (.val (.int (ns.getD k.toNat 0))) { s2 with S := s2.S.set n (ns.eraseIdx k.toNat) } else .no
      | none => .no)
    | _ => .no)
  | _ => .no
section
variable {C : Cs} {X : Cx} {fr : Fr} {W : WX} {Φ : PhiT} {pos p cpos apos : Pos} {a b e : Expr} {ma mb m : M R}
theorem ps_bagPut (ha : PE X a (LE fr W Φ ma)) (hb : PE X b (LE fr W Φ mb)) (he : PE X e (LE fr W Φ m))
    (has : ∀ v, assign (.Subscript a b p) X.env v = (do
      let ov ← holding [v] (eval a X.env)
      let iv ← holding [v, ov] (eval b X.env)
      standAt p
      holding [v, ov, iv] (setItem ov iv v)
      release [v, ov, iv] []))
    (hs : swapsWithSole [.Subscript a b p] e pos.line X.env = Pure.pure false) (hw : swappedStores [.Subscript a b p] e X.env = Pure.pure none) (h1 : (assignEach [.Subscript a b p] X.env).map (·.2) = [assign (.Subscript a b p) X.env]) :
    PS X (.Assign [.Subscript a b p] e pos) (LS fr W Φ (mBagPut ma mb m)) := by
  refine PS.imp (ps_asg (pe_frz he) (pg_sub (pe_opd ha) (pe_opd hb) set_list has) hs hw h1) fun D σ H ⟨w, A, r⟩ => ⟨w, A, (ResS.bind (Rel := RelV') r).imp ?_⟩
  rintro v H1 ⟨dv, w1, A1, N1, R1, r1⟩
  refine ⟨w1, A1, (ResS.bind (Rel := RelP) r1).imp ?_⟩
  rintro o H2 ⟨d, w2, A2, N2, R2, r2⟩
  refine ⟨w2, A2, (ResS.bind (Rel := RelP) r2).imp ?_⟩
  rintro i H3 ⟨k, w3, A3, N3, R3, r3⟩
  have R2' := N3.pk R2
  have R1' := N3.rep (N2.rep R1)
  cases dv <;> first | exact r3.elim | skip
  cases d <;> first | exact r3.elim | skip
  cases k <;> first | exact r3.elim | skip
  rename_i x n k
  obtain ⟨z, rfl, hz⟩ := pk_bag R2'
  obtain ⟨ns, h3, h4⟩ := A3.good.at_bag hz
  cases R1'
  have r4 : ResS fr W D (match w3.S[n]? with
    | some ns => (match ixN ns.length k with
      | some j => .ok .nx ⟨w3.ρ, w3.S.set n (ns.set j x)⟩
      | none => .no)
    | none => .no) := r3
  rw [h3] at r4
  have r5 : ResS fr W D (match ixN ns.length k with
    | some j => .ok .nx ⟨w3.ρ, w3.S.set n (ns.set j x)⟩
    | none => .no) := r4
  cases ej : ixN ns.length k with
  | none => rw [ej] at r5; exact r5.elim
  | some j =>
    rw [ej] at r5
    refine ⟨z, ns.map V.int, k, j, rfl, pk_int R3, h4, by rw [List.length_map]; exact ej, ?_⟩
    have em : (ns.map V.int).set j (V.int x) = (ns.set j x).map V.int := by rw [List.map_set]
    rw [em]
    exact r5 σ _ (w3.bagSet n (ns.set j x)) rfl rfl (A3.bagSet hz).1
theorem pe_bagPop (ha : PE X a (LE fr W Φ ma)) (hb : PE X b (LE fr W Φ mb)) (hst : starEach [b] X.env = (false, eval b X.env) :: starEach [] X.env) (hbase : attributeBase a "pop" X.env (eval a X.env) = eval a X.env)
    (hfew : ((backTo cpos (starEach [b] X.env)).all (fun x => !x.1) && (backToKw cpos (keywordEach [] X.env)).all (fun x => x.1.isSome) && decide ([b].length + ([] : List Keyword).length + (if ([] : List Keyword).isEmpty then 0 else 1) < 30)) = true)
    (hline : (apos.endLine == cpos.line) = true) :
    PE X (.Call (.Attribute a "pop" apos) [b] [] cpos) (LE fr W Φ (mBagPop ma mb)) := by
  refine PE.imp (pe_bm PySem.F.plainAttrs_list PySem.F.slot_list_pop PySem.F.type_list_pop mt_popAt (pe_opd ha) (pa_cons (pe_opd hb) pa_nil hst) hbase hfew hline hst (by rfl)) fun σ H Q ⟨w, A, r⟩ => ⟨w, A, (ResG.bind (Rel' := RelP) antiR r).imp ?_⟩
  rintro x H1 ⟨d, w1, A1, N1, R1, h1⟩
  cases d <;> first | exact h1.elim | skip
  rename_i n
  obtain ⟨z, rfl, hz⟩ := pk_bag R1
  obtain ⟨ms, _, h4⟩ := A1.good.at_bag hz
  refine ⟨.inl ⟨rfl, _, .inl (.inl h4)⟩, w1, A1, ?_⟩
  have h2 : ResG fr W σ H1 w1 (RelR σ) Q ((mOpd mb Φ ⟨w1.ρ, w1.S⟩).bind fun k s2 => (match k with
    | .int k => (match s2.S[n]? with
      | some ns => if 0 ≤ k ∧ k < ns.length ∧ ns.length ≤ lim then .ok (.val (.int (ns.getD k.toNat 0))) { s2 with S := s2.S.set n (ns.eraseIdx k.toNat) } else .no
      | none => .no)
    | _ => .no)) := h1
  refine (ResG.bind (Rel' := RelP) antiR h2).imp ?_
  rintro y H2 ⟨k, w2, A2, N2, R2, h3⟩
  cases k <;> first | exact h3.elim | skip
  rename_i k
  have hz2 := N2.bmono n z hz
  obtain ⟨ns, h5, h6⟩ := A2.good.at_bag hz2
  have h7 : ResG fr W σ H2 w2 (RelR σ) Q (match w2.S[n]? with
    | some ns => if 0 ≤ k ∧ k < ns.length ∧ ns.length ≤ lim then .ok (.val (.int (ns.getD k.toNat 0))) ⟨w2.ρ, w2.S.set n (ns.eraseIdx k.toNat)⟩ else .no
    | none => .no) := h3
  rw [h5] at h7
  have h8 : ResG fr W σ H2 w2 (RelR σ) Q (if 0 ≤ k ∧ k < ns.length ∧ ns.length ≤ lim then .ok (.val (.int (ns.getD k.toNat 0))) ⟨w2.ρ, w2.S.set n (ns.eraseIdx k.toNat)⟩ else .no) := h7
  by_cases c : 0 ≤ k ∧ k < ns.length ∧ ns.length ≤ lim
  · rw [if_pos c] at h8
    obtain ⟨c1, c2, c3⟩ := c
    have hk : k.toNat < ns.length := by omega
    have big : (lim : Int) < 2 ^ 63 := by decide
    have lt63 : k < 2 ^ 63 := by omega
    refine ⟨z, ns.map V.int, k, k.toNat, .int (ns.getD k.toNat 0), rfl, by rw [pk_int R2], h6, by omega, lt63, ?_, ?_, ?_⟩
    · rw [List.length_map]
      have e : ixN ns.length k = some k.toNat := by unfold ixN; rw [if_pos c1, if_pos c2]
      exact (ixN_seq e).1
    · rw [List.getElem?_map, List.getD_eq_getElem?_getD, List.getElem?_eq_getElem hk]; rfl
    · have em : (ns.map V.int).eraseIdx k.toNat = (ns.eraseIdx k.toNat).map V.int := map_erase ns _
      rw [em]
      obtain ⟨A3, N3⟩ := A2.bagSet (ns := ns.eraseIdx k.toNat) hz2
      exact h8 _ _ (w2.bagSet n (ns.eraseIdx k.toNat)) rfl rfl A3 N3 (show Rep _ _ _ _ from .int _)
  · rw [if_neg c] at h8; exact h8.elim
end
end DL
end

section
set_option Elab.async false
set_option linter.all false
set_option maxRecDepth 100000
set_option autoImplicit false
set_option maxHeartbeats 1000000
/-! DL13: enumerate and zip of lists and tuples in any mix. -/
namespace PySem
open Sem (wp)
theorem meets_enumerate_newT (l : Addr) (items : Array Value) (n : Nat) (dct : Option Addr) (sl : Array (Option Value)) :
    Meets (Builtin.«enumerate.__new__» ⟨[.type "enumerate", .ref l], []⟩) (fun _ R s => s.heap.get? l = some { cls := .type "tuple", dict := dct, data := .seq items n, slots := sl } ∧
      R (.ok (.ret (.ref (s.heap.push { cls := .type "tuple_iterator", data := .fields #[.ref l, .int 0 0] }).objs.size)))
        { s with heap := (s.heap.push { cls := .type "tuple_iterator", data := .fields #[.ref l, .int 0 0] }).push { cls := .type "enumerate", data := .fields #[.none, .bool false, .ref s.heap.objs.size, rawInt 0, .none, .none] } }) :=
  .of_wp fun prog w A R s h => by
    obtain ⟨hp, g, d, tk, os⟩ := s; obtain ⟨hl, h⟩ := h
    have hsub := sub_enumerate
    have hL : Heap.IsTuple (Shared.heap ⟨hp, g, d, tk, os⟩) l items := ⟨_, hl, rfl, n, rfl⟩
    wp_walk using AutoSeq1.wpAny_loadPart' hl
    refine wpAny_stack_any fun st => wpAny_pure ?_
    split
    · rename_i c _ _ _ _ _
      cases (c == Value.type "enumerate")
      · wp_walk using AutoSeq1.wpAny_loadPart' hl, wpAny_pyIter_tuple hL
        exact ⟨_, rfl, h⟩
      · wp_walk using AutoSeq1.wpAny_loadPart' hl, wpAny_pyIter_tuple hL
        exact ⟨_, rfl, h⟩
    · wp_walk using AutoSeq1.wpAny_loadPart' hl, wpAny_pyIter_tuple hL
      exact ⟨_, rfl, h⟩
theorem call_enumerate_tuple {prog : Program} {w : World} {A : Around} {E : Value → Shared → Prop} {s : Shared} {l : Addr} {items : Array Value} {Q : Value → Shared → Prop} (hL : s.heap.IsTuple l items)
    (h : ∀ h', IsEnum h' (s.heap.objs.size + 1) s.heap.objs.size 0 .none → h'.IsTupleIter s.heap.objs.size l 0 → h'.objs.size = s.heap.objs.size + 2 →
      (∀ b o, s.heap.get? b = some o → h'.get? b = some o) → Q (.ref (s.heap.objs.size + 1)) { s with heap := h' }) :
    wpAny (model prog w) A (call (.type "enumerate") [.ref l]) Q E s := by
  obtain ⟨⟨c, dct, dt, sl⟩, hl, hc, n, hd⟩ := hL
  replace hc : c = .type "tuple" := hc
  replace hd : dt = .seq items n := hd
  subst hc hd
  refine callType_new F.called_enumerate (by decide) (F.typeCall_enumerate_1 _) (F.newCall_enumerate_1 _) (fun obj => F.args_object_init_2 obj _) F.entry_enumerate_new
    (meets_enumerate_newT l items n dct sl) ⟨hl, ?_⟩
  have hz : (s.heap.push { cls := .type "tuple_iterator", data := .fields #[.ref l, .int 0 0] }).objs.size = s.heap.objs.size + 1 := Heap.size_push ..
  show _ ∧ _
  rw [hz]
  have he : IsEnum ((s.heap.push { cls := .type "tuple_iterator", data := .fields #[.ref l, .int 0 0] }).push
      { cls := .type "enumerate", data := .fields #[.none, .bool false, .ref s.heap.objs.size, rawInt 0, .none, .none] }) (s.heap.objs.size + 1) s.heap.objs.size 0 .none := by
    have := Heap.get?_push_size (s.heap.push { cls := .type "tuple_iterator", data := .fields #[.ref l, .int 0 0] })
      (o := { cls := .type "enumerate", data := .fields #[.none, .bool false, .ref s.heap.objs.size, rawInt 0, .none, .none] }) rfl
    rw [hz] at this; exact this
  refine ⟨⟨_, he, rfl⟩, h _ he ⟨_, Heap.get?_push_of_some _ (Heap.get?_push_size _ rfl), rfl, rfl⟩ (by rw [Heap.size_push, hz]) fun b o x => Heap.get?_push_of_some _ (Heap.get?_push_of_some _ x)⟩
end PySem
namespace DL
open PySem PySem.Spec PyProof.Rows L2

/-! ### a list or a tuple -/
def SqA (k : Bool) (K : PySem.W.Frag) (H : Hp) (a : Addr) (xs : List V) : Prop := match k with
  | true => SqL K H a xs
  | false => SqT K H a xs
def IsSq (k : Bool) (h : Heap) (a : Addr) (items : Array Value) : Prop := match k with
  | true => h.IsList a items
  | false => h.IsTuple a items
def IsIt (k : Bool) (h : Heap) (it a : Addr) (i : Nat) : Prop := match k with
  | true => h.IsListIter it a i
  | false => h.IsTupleIter it a i
def itO (k : Bool) (a : Addr) : Obj := match k with
  | true => { cls := .type "list_iterator", data := .fields #[.ref a, .int 0 0] }
  | false => { cls := .type "tuple_iterator", data := .fields #[.ref a, .int 0 0] }
section
variable {k : Bool} {X : Cx} {pins : List (Addr × Obj)} {σ : L2.St} {H : Hp} {s : Shared} {K : PySem.W.Frag} {a it : Addr} {xs : List V}
theorem seqA (I : Inv X pins σ H s) (h : SqA k X.K H a xs) : ∃ its : List Value, Vals xs its ∧ IsSq k s.heap a its.toArray ∧ a < s.heap.objs.size := by
  cases k with
  | true =>
    obtain ⟨its, rv, p, _⟩ := I.list h
    exact ⟨its, rv, p.isList, p.lt⟩
  | false =>
    obtain ⟨its, rv, p, _⟩ := I.tuple h
    obtain ⟨o, ho, _⟩ := id p
    exact ⟨its, rv, p, Heap.lt_size ho⟩
theorem seqA_inj {ys : List V} (I : Inv X pins σ H s) (h : SqA k X.K H a xs) (h' : SqA k X.K H a ys) : xs = ys := by
  cases k with
  | true => exact I.list_inj h h'
  | false => exact I.tuple_inj h h'
theorem IsIt.obj {h : Heap} {i : Nat} (q : IsIt k h it a i) : ∃ o, h.get? it = some o ∧ ∀ v, o.data ≠ .cell v := by
  cases k with
  | true => obtain ⟨o, ho, _, hd⟩ := q; exact ⟨o, ho, fun v z => by rw [hd] at z; cases z⟩
  | false => obtain ⟨o, ho, _, hd⟩ := q; exact ⟨o, ho, fun v z => by rw [hd] at z; cases z⟩
theorem IsIt.kp {h h' : Heap} {i : Nat} (q : IsIt k h it a i) (f : ∀ o, h.get? it = some o → h'.get? it = some o) : IsIt k h' it a i := by
  cases k with
  | true => exact (show h.IsListIter it a i from q).at f
  | false => exact (show h.IsTupleIter it a i from q).at f
theorem drawsA {prog : Program} {w : World} {A : Around} (hh : A.handled = none) (it a : Addr) (hne : a ≠ it) (items : Array Value) :
    Draws prog w A it [it, a] items.size (fun i v => items[i]? = some v) (fun i h => IsIt k h it a i ∧ IsSq k h a items) := by
  cases k with
  | true => exact Draws.list hh it a hne items
  | false => exact Draws.tuple hh it a hne items
theorem beginsA (a : Addr) (items : Array Value) : Begins (.ref a) (itO k a) fun h => IsSq k h a items := by
  cases k with
  | true => exact begins_list a items
  | false => exact begins_tuple a items
theorem itO_is {h : Heap} (q : h.get? it = some (itO k a)) : IsIt k h it a 0 := by
  cases k with
  | true => exact ⟨_, q, rfl, rfl⟩
  | false => exact ⟨_, q, rfl, rfl⟩
/-- the sequence at a, each item in a new pair behind its place -/
def IteA (k : Bool) (K : PySem.W.Frag) (a : Addr) : It :=
  ⟨fun i H => ∃ (xs : List V) (x : V), SqA k K H a xs ∧ xs[i]? = some x, fun i H v H' => ∃ T x, v = .ref T ∧ H T = none ∧ H' = upd H T (.tup [.int (i : Nat), x]) ∧ ∀ xs, SqA k K H a xs → xs[i]? = some x, fun i H => ∃ xs : List V, SqA k K H a xs ∧ xs.length = i⟩
theorem turn_enumA {P : Program} {w : World} {K : PySem.W.Frag} {elts : List Expr} {kk : Nat} {tpos : Pos} (k : Bool) (a e it : Addr) :
    Turn P w K (.Tuple elts kk tpos) (IteA k K a) [e, it] e (fun i h => (∃ old, IsEnum h e it ((i : Nat) : Int) old) ∧ IsIt k h it a i ∧ e ≠ it ∧ a ≠ it ∧ a ≠ e) where
  mem := by simp
  obj := fun i h st b hb => by
    obtain ⟨⟨old, he⟩, hi, _⟩ := st
    have e' : b = e ∨ b = it := by simpa using hb
    rcases e' with z | z
    · rw [z]; exact ⟨_, he, fun v q => nomatch q⟩
    · rw [z]; exact hi.obj
  keep := fun i h h' st kk => let ⟨⟨old, he⟩, hi, hne⟩ := st; ⟨⟨old, kk e (by simp) _ he⟩, hi.kp fun o q => kk it (by simp) o q, hne⟩
  item := by
    intro X hP hw hK hc i pins s σ H E I hf st hg
    subst hP hw hK
    obtain ⟨⟨old, he⟩, hit, hne, hai, hae⟩ := st
    obtain ⟨xs, x, hq, hx⟩ := hg
    obtain ⟨its, rv, p, hz⟩ := seqA I hq
    obtain ⟨u, hu, ru⟩ := rv.get hx
    have hel : e < s.heap.objs.size := Heap.lt_size he
    have hil : it < s.heap.objs.size := by obtain ⟨_, q, _⟩ := hit.obj; exact Heap.lt_size q
    have hli : i < its.toArray.size := by
      have := (List.getElem?_eq_some_iff.mp hu).1
      simpa using this
    have hh : X.A.in1.handled = none := I.ok.hd hc
    refine wpAny_pyNext_enum_itemD (drawsA (k := k) hh it a hai its.toArray) he ⟨hit, p⟩ hli hne (by simp; exact ⟨hne, fun z => hae z.symm⟩) fun x' h' tk hPx ho hit' hT hsz hk => ?_
    have hx' : x' = u := by
      have q1 : its.toArray[i]? = some x' := hPx
      rw [List.getElem?_toArray, hu] at q1
      exact (Option.some.inj q1).symm
    subst hx'
    refine ⟨_, rfl, wpAny_letOwnedTupleGo_enum (s := { s with heap := h', toks := tk + 1 }) ho fun h'' he' sb => ?_⟩
    have hT2 : h''.get? s.heap.objs.size = some { cls := .type "tuple", data := .seq #[.int i tk, x'] } := (sb.2 _ (Nat.ne_of_gt hel)).trans hT
    have new : ObjOk X.prog X.w (upd H s.heap.objs.size (.tup [.int (i : Nat), x])) h'' s.heap.objs.size (.tup [.int (i : Nat), x]) :=
      ⟨by show 2 ≤ sizeLine; decide, [.int i tk, x'], .cons ⟨_, rfl⟩ (.cons ru .nil), ⟨_, hT2, rfl, _, rfl⟩⟩
    have I1 : Inv X pins σ (upd H s.heap.objs.size (.tup [.int (i : Nat), x])) { s with heap := h'', toks := tk + 1 } :=
      I.turnedNew (ch := [e, it]) (fun b ob hb q => (sb.2 b (fun z => hb (by simp [z]))).trans (hk b ob (fun z => hb (by simp [z])) (fun z => hb (by simp [z])) q)) hf (Nat.le_refl _) new
    refine ⟨.ref s.heap.objs.size, _, I1, rfl, ⟨_, x, rfl, I.hok.fresh (Nat.le_refl _), rfl, fun ys hy => by rw [seqA_inj I hy hq]; exact hx⟩, ⟨⟨x', ?_⟩, hit'.1.kp fun o q => (sb.2 it (Ne.symm hne)).trans q, hne, hai, hae⟩, fun b hb => ?_⟩
    · have e1 : ((i + 1 : Nat) : Int) = (i : Int) + 1 := by omega
      rw [e1]; exact he'
    · have hb' : b < s.heap.objs.size := by
        have e' : b = e ∨ b = it := by simpa using hb
        rcases e' with z | z
        · rw [z]; exact hel
        · rw [z]; exact hil
      rw [upd_ne (Nat.ne_of_lt hb')]
      exact (hf b hb).1
  done := by
    intro X hP hw hK hc i pins s σ H E I hf st hg
    subst hP hw hK
    obtain ⟨⟨old, he⟩, hit, hne, hai, hae⟩ := st
    obtain ⟨xs, hq, hx⟩ := hg
    obtain ⟨its, rv, p, hz⟩ := seqA I hq
    obtain ⟨f0, f1, f2, f3, f4, f5⟩ := hf it (by simp)
    have hl := rv.length
    have hh : X.A.in1.handled = none := I.ok.hd hc
    have hi : i = its.toArray.size := by simp; omega
    exact wpAny_pyNext_enum_endD (drawsA (k := k) hh it a hai its.toArray) he ⟨hi ▸ hit, p⟩ fun h' eb => ⟨rfl, I.turned (t' := s.toks) (fun b o hb q => eb b o hb q) f0 f1 f3 f4 f5⟩
  self := fun A i s Q E st h => let ⟨⟨_, he⟩, _⟩ := st; wpAny_pyIter_enum he h
def iEnumA (K : PySem.W.Frag) (ta : TA) : TI := fun σ H R => ta σ H fun vs H1 => ∃ k a xs, vs = [.ref a] ∧ SqA k K H1 a xs ∧ R (IteA k K a) H1
theorem pi_enumA {X : Cx} {e : Expr} {ta : TA} {p pos tpos : Pos} {elts : List Expr} {kk : Nat} (hg : Gl X "enumerate") (hm : X.mg "enumerate" = none) (ha : PA X [e] ta) (hs : starEach [e] X.env = [(false, eval e X.env)]) :
    PI X (.Tuple elts kk tpos) (.Call (.Name "enumerate" p) [e] [] pos) (iEnumA X.K ta) := by
  refine ⟨fun pins s σ H R I h => ?_⟩
  refine Call_ (ld_blt I hg hm boot_enumerate (PyProof.Rows.callWith_type1 (thn (ha.run pos pins s σ H _ I h) fun us s1 ⟨vs, H1, I1, r1, q1⟩ => ?_) hs rfl))
  obtain ⟨k, a, xs, ex, hq, q⟩ := q1
  subst ex
  cases r1 with
  | cons r rr =>
    cases rr
    cases r
    obtain ⟨its, rv, p', hz⟩ := seqA I1 hq
    have fin : ∀ h', IsEnum h' (s1.heap.objs.size + 1) s1.heap.objs.size 0 .none → IsIt k h' s1.heap.objs.size a 0 → (∀ b o, s1.heap.get? b = some o → h'.get? b = some o) →
        wpAny (model X.prog X.w) X.A (pyIter (.ref (s1.heap.objs.size + 1))) (PIE X pins σ (.Tuple elts kk tpos) R) X.xe { s1 with heap := h' } := fun h' he hit hk => by
      refine wpAny_pyIter_enum he ?_
      have I2 : Inv X pins σ H1 { s1 with heap := h' } := I1.kept (t' := s1.toks) hk
      refine ⟨s1.heap.objs.size + 1, [s1.heap.objs.size + 1, s1.heap.objs.size], _, _, H1, rfl, I2, turn_enumA k a (s1.heap.objs.size + 1) s1.heap.objs.size, ⟨⟨.none, he⟩, hit, Nat.succ_ne_self _, Nat.ne_of_lt hz, Nat.ne_of_lt (Nat.lt_succ_of_lt hz)⟩, fun b hb => ?_, q⟩
      have e' : b = s1.heap.objs.size + 1 ∨ b = s1.heap.objs.size := by simpa using hb
      have hle : s1.heap.objs.size ≤ b := by
        rcases e' with z | z
        · rw [z]; exact Nat.le_add_right _ _
        · rw [z]; exact Nat.le_refl _
      exact I1.fpOk hle (I1.hok.fresh hle)
    cases k with
    | true => exact call_enumerate_list p' fun h' he hit hsz hk => fin h' he hit hk
    | false => exact call_enumerate_tuple p' fun h' he hit hsz hk => fin h' he hit hk
/-- the sequences at a and b, the items in new pairs -/
def ItzA (k j : Bool) (K : PySem.W.Frag) (a b : Addr) : It :=
  ⟨fun i H => ∃ (xs ys : List V) (x y : V), SqA k K H a xs ∧ SqA j K H b ys ∧ xs[i]? = some x ∧ ys[i]? = some y,
    fun i H v H' => ∃ T x y, v = .ref T ∧ H T = none ∧ H' = upd H T (.tup [x, y]) ∧ (∀ xs, SqA k K H a xs → xs[i]? = some x) ∧ ∀ ys, SqA j K H b ys → ys[i]? = some y,
    fun i H => ∃ xs ys : List V, SqA k K H a xs ∧ SqA j K H b ys ∧ i = min xs.length ys.length⟩
theorem turn_zipA {P : Program} {w : World} {K : PySem.W.Frag} {elts : List Expr} {kk : Nat} {tpos : Pos} {k j : Bool} {a b z TI TO i1 i2 : Addr} (D : ZipSep2 z TI TO i1 i2 [i1, a] [i2, b]) :
    Turn P w K (.Tuple elts kk tpos) (ItzA k j K a b) [z, TI, TO, i1, i2] z (fun i h => IsZip h z TI TO .none ∧ IsTupOf2 h TI (.ref i1) (.ref i2) ∧ (∃ x y, IsTupOf2 h TO x y) ∧ IsIt k h i1 a i ∧ IsIt j h i2 b i ∧ a ≠ i1 ∧ b ≠ i2) where
  mem := by simp
  obj := fun i h st c hc => by
    obtain ⟨hz, hTI, ⟨x, y, hTO⟩, h1, h2, _⟩ := st
    have e' : c = z ∨ c = TI ∨ c = TO ∨ c = i1 ∨ c = i2 := by simpa using hc
    rcases e' with q | q | q | q | q
    · rw [q]; exact ⟨_, hz, fun v q => nomatch q⟩
    · rw [q]; exact ⟨_, hTI, fun v q => nomatch q⟩
    · rw [q]; exact ⟨_, hTO, fun v q => nomatch q⟩
    · rw [q]; exact h1.obj
    · rw [q]; exact h2.obj
  keep := fun i h h' st k => by
    obtain ⟨hz, hTI, ⟨x, y, hTO⟩, h1, h2, hn⟩ := st
    exact ⟨k z (by simp) _ hz, k TI (by simp) _ hTI, ⟨x, y, k TO (by simp) _ hTO⟩, h1.kp fun o q => k i1 (by simp) o q, h2.kp fun o q => k i2 (by simp) o q, hn⟩
  item := by
    intro X hP hw hK hc i pins s σ H E I hf st hg
    subst hP hw hK
    obtain ⟨hz, hTI, ⟨x0, y0, hTO⟩, h1, h2, ha1, hb2⟩ := st
    obtain ⟨xs, ys, x, y, hqx, hqy, hx, hy⟩ := hg
    obtain ⟨its, rv, p, _⟩ := seqA I hqx
    obtain ⟨its2, rv2, p2, _⟩ := seqA I hqy
    obtain ⟨u, hu, ru⟩ := rv.get hx
    obtain ⟨u2, hu2, ru2⟩ := rv2.get hy
    have hzl : z < s.heap.objs.size := Heap.lt_size hz
    have hh : X.A.in1.handled = none := I.ok.hd hc
    have l1 : i < its.toArray.size := by simpa using (List.getElem?_eq_some_iff.mp hu).1
    have l2 : i < its2.toArray.size := by simpa using (List.getElem?_eq_some_iff.mp hu2).1
    refine wpAny_pyNext_zipD2_item D (drawsA (k := k) hh i1 a ha1 its.toArray) (drawsA (k := j) hh i2 b hb2 its2.toArray) hz hTI hTO ⟨h1, p⟩ ⟨h2, p2⟩ l1 l2 fun x1 x2 h' tk y1 y2 z' TO' h1' h2' hT hsz hk => ?_
    have e1 : x1 = u := by
      have q1 : its.toArray[i]? = some x1 := y1
      rw [List.getElem?_toArray, hu] at q1
      exact (Option.some.inj q1).symm
    have e2 : x2 = u2 := by
      have q1 : its2.toArray[i]? = some x2 := y2
      rw [List.getElem?_toArray, hu2] at q1
      exact (Option.some.inj q1).symm
    subst e1 e2
    refine ⟨_, rfl, wpAny_letOwnedTupleGo_zip (s := { s with heap := h', toks := tk }) z' fun h'' z'' sb => ?_⟩
    have hT2 : h''.get? s.heap.objs.size = some { cls := .type "tuple", data := .seq #[x1, x2] } := (sb.2 _ (Nat.ne_of_gt hzl)).trans hT
    have new : ObjOk X.prog X.w (upd H s.heap.objs.size (.tup [x, y])) h'' s.heap.objs.size (.tup [x, y]) :=
      ⟨by show 2 ≤ sizeLine; decide, [x1, x2], .cons ru (.cons ru2 .nil), ⟨_, hT2, rfl, _, rfl⟩⟩
    have I1 : Inv X pins σ (upd H s.heap.objs.size (.tup [x, y])) { s with heap := h'', toks := tk } :=
      I.turnedNew (t' := tk) (ch := [z, TI, TO, i1, i2]) (fun c o hb q => (sb.2 c (fun q' => hb (by simp [q']))).trans (hk c o (fun q' => hb (by simp [q'])) (fun q' => hb (by simp [q'])) (fun q' => hb (by simp [q'])) (fun q' => hb (by simp [q'])) q)) hf (Nat.le_refl _) new
    refine ⟨.ref s.heap.objs.size, _, I1, rfl, ⟨_, x, y, rfl, I.hok.fresh (Nat.le_refl _), rfl, fun l hl => by rw [seqA_inj I hl hqx]; exact hx, fun l hl => by rw [seqA_inj I hl hqy]; exact hy⟩, ⟨z'', ?_, ⟨x1, x2, ?_⟩, ?_, ?_, ha1, hb2⟩, fun c hcm => ?_⟩
    · exact (sb.2 _ D.TIz).trans (hk _ _ D.TIz D.TITO D.TIi1 D.TIi2 hTI)
    · exact (sb.2 _ D.TOz).trans TO'
    · exact h1'.1.kp fun o q => (sb.2 _ (Ne.symm D.zi1)).trans q
    · exact h2'.1.kp fun o q => (sb.2 _ (Ne.symm D.zi2)).trans q
    · have hlt : c < s.heap.objs.size := by
        have e' : c = z ∨ c = TI ∨ c = TO ∨ c = i1 ∨ c = i2 := by simpa using hcm
        rcases e' with q | q | q | q | q
        · rw [q]; exact hzl
        · rw [q]; exact Heap.lt_size hTI
        · rw [q]; exact Heap.lt_size hTO
        · rw [q]; obtain ⟨_, e1, _⟩ := h1.obj; exact Heap.lt_size e1
        · rw [q]; obtain ⟨_, e2, _⟩ := h2.obj; exact Heap.lt_size e2
      rw [upd_ne (Nat.ne_of_lt hlt)]
      exact (hf c hcm).1
  done := by
    intro X hP hw hK hc i pins s σ H E I hf st hg
    subst hP hw hK
    obtain ⟨hz, hTI, ⟨x0, y0, hTO⟩, h1, h2, ha1, hb2⟩ := st
    obtain ⟨xs, ys, hqx, hqy, hend⟩ := hg
    obtain ⟨its, rv, p, _⟩ := seqA I hqx
    obtain ⟨its2, rv2, p2, _⟩ := seqA I hqy
    have hh : X.A.in1.handled = none := I.ok.hd hc
    have l1 : its.toArray.size = xs.length := by simp; exact rv.length.symm
    have l2 : its2.toArray.size = ys.length := by simp; exact rv2.length.symm
    exact wpAny_pyNext_zipD2_end D (drawsA (k := k) hh i1 a ha1 its.toArray) (drawsA (k := j) hh i2 b hb2 its2.toArray) hz hTI hTO ⟨h1, p⟩ ⟨h2, p2⟩ (by omega) (by omega) (by omega) fun h' tk hk => ⟨rfl, I.turnedL (t' := tk) (ch := [z, TI, TO, i1, i2]) (fun c o hb q =>
      hk c o (fun q' => hb (by simp [q'])) (fun q' => hb (by simp [q'])) (fun q' => hb (by simp [q'])) (fun q' => hb (by simp [q'])) q) hf⟩
  self := fun A i s Q E st h => wpAny_pyIter_zip st.1 h
def iZipB (K : PySem.W.Frag) (ta : TA) : TI := fun σ H R => ta σ H fun vs H1 => ∃ k j a b xs ys, vs = [.ref a, .ref b] ∧ SqA k K H1 a xs ∧ SqA j K H1 b ys ∧ R (ItzA k j K a b) H1
theorem pi_zipB {X : Cx} {e e2 : Expr} {ta : TA} {p pos tpos : Pos} {elts : List Expr} {kk : Nat} (hg : Gl X "zip") (hm : X.mg "zip" = none) (ha : PA X [e, e2] ta)
    (hs : starEach [e, e2] X.env = (false, eval e X.env) :: starEach [e2] X.env) (hpl : (backTo pos (starEach [e2] X.env)).any (·.1) = false) :
    PI X (.Tuple elts kk tpos) (.Call (.Name "zip" p) [e, e2] [] pos) (iZipB X.K ta) := by
  refine ⟨fun pins s σ H R I h => ?_⟩
  refine Call_ (ld_blt I hg hm PyProof.Rows.boot_zip (PyProof.Rows.callWith_type1 (thn (ha.run pos pins s σ H _ I h) fun us s1 ⟨vs, H1, I1, r1, q1⟩ => ?_) hs hpl))
  obtain ⟨k, j, a, b, xs, ys, ex, hqx, hqy, q⟩ := q1
  subst ex
  cases r1 with
  | cons r rr =>
    cases rr with
    | cons r' rr =>
      cases rr
      cases r
      cases r'
      obtain ⟨its, rv, p1, la⟩ := seqA I1 hqx
      obtain ⟨its2, rv2, p2, lb⟩ := seqA I1 hqy
      refine zip_begins2 (beginsA (k := k) a its.toArray) (beginsA (k := j) b its2.toArray) p1 p2 fun h' hz hTI hTO h1 h2 hsz hk => wpAny_pyIter_zip hz ?_
      have I2 : Inv X pins σ H1 { s1 with heap := h' } := I1.kept (t' := s1.toks) hk
      refine ⟨s1.heap.objs.size + 4, [s1.heap.objs.size + 4, s1.heap.objs.size + 2, s1.heap.objs.size + 3, s1.heap.objs.size, s1.heap.objs.size + 1], _, _, H1, rfl, I2, turn_zipA (zip_sep2 (by simpa using la) (by simpa using lb)), ⟨hz, hTI, ⟨_, _, hTO⟩, itO_is h1, itO_is h2, Nat.ne_of_lt la, Nat.ne_of_lt (Nat.lt_succ_of_lt lb)⟩, fun c hcm => ?_, q⟩
      have e' : c = s1.heap.objs.size + 4 ∨ c = s1.heap.objs.size + 2 ∨ c = s1.heap.objs.size + 3 ∨ c = s1.heap.objs.size ∨ c = s1.heap.objs.size + 1 := by simpa using hcm
      have hle : s1.heap.objs.size ≤ c := by
        rcases e' with z | z | z | z | z
        · rw [z]; exact Nat.le_add_right _ _
        · rw [z]; exact Nat.le_add_right _ _
        · rw [z]; exact Nat.le_add_right _ _
        · rw [z]; exact Nat.le_refl _
        · rw [z]; exact Nat.le_add_right _ _
      exact I1.fpOk hle (I1.hok.fresh hle)
end

/-! ### the meanings -/
def enumFrom : Nat → List D → List D
  | _, [] => []
  | i, d :: r => .tup [.int (i : Nat), d] :: enumFrom (i + 1) r
def zipD : List D → List D → List D
  | a :: r, b :: q => .tup [a, b] :: zipD r q
  | _, _ => []
theorem enumFrom_len : ∀ (l : List D) (i : Nat), (enumFrom i l).length = l.length
  | [], _ => rfl
  | _ :: r, i => by simp [enumFrom, enumFrom_len r]
theorem enumFrom_at : ∀ {l : List D} {i j : Nat} {d : D}, l[j]? = some d → (enumFrom i l)[j]? = some (.tup [.int ((i + j : Nat) : Int), d])
  | [], _, _, _, h => by simp at h
  | _ :: r, i, 0, d, h => by simp at h; subst h; rfl
  | _ :: r, i, j + 1, d, h => by
    have q := enumFrom_at (i := i + 1) (j := j) (d := d) (by simpa using h)
    have e : i + 1 + j = i + (j + 1) := by omega
    rw [e] at q
    simpa [enumFrom] using q
theorem zipD_len : ∀ (l m : List D), (zipD l m).length = min l.length m.length
  | [], m => by simp [zipD]
  | _ :: r, [] => by simp [zipD]
  | _ :: r, _ :: q => by simp [zipD, zipD_len r q]
theorem zipD_at : ∀ {l m : List D} {j : Nat} {a b : D}, l[j]? = some a → m[j]? = some b → (zipD l m)[j]? = some (.tup [a, b])
  | [], _, _, _, _, h, _ => by simp at h
  | _ :: _, [], _, _, _, _, h => by simp at h
  | _ :: r, _ :: q, 0, a, b, h, h' => by simp at h h'; subst h; subst h'; rfl
  | _ :: r, _ :: q, j + 1, a, b, h, h' => by
    have z := zipD_at (l := r) (m := q) (j := j) (a := a) (b := b) (by simpa using h) (by simpa using h')
    simpa [zipD] using z
def mEnum (m : M (List D)) : M (List D) := fun Φ s => (m Φ s).bind fun ds s1 => match ds with
  | [d] => (match seqOf d with
    | some l => .ok (enumFrom 0 l) s1
    | none => .no)
  | _ => .no
def mZip (m : M (List D)) : M (List D) := fun Φ s => (m Φ s).bind fun ds s1 => match ds with
  | [d, e] => (match seqOf d, seqOf e with
    | some l, some q => .ok (zipD l q) s1
    | _, _ => .no)
  | _ => .no
section
variable {C : Cs} {X : Cx} {fr : Fr} {W : WX} {Φ : PhiT} {pos p tpos : Pos} {a b : Expr} {elts : List Expr} {kk : Nat} {ms : M (List D)}
theorem repSeq {w : Wl} {v : V} {d : D} {l : List D} (r : Rep w.F w.B v d) (h : seqOf d = some l) : ∃ k a xs, v = .ref a ∧ w.F a = some (if k = true then HO.lst xs else HO.tup xs) ∧ Reps w.F w.B xs l := by
  cases r with
  | tup h1 r1 => cases h; exact ⟨false, _, _, rfl, h1, r1⟩
  | lst h1 r1 => cases h; exact ⟨true, _, _, rfl, h1, r1⟩
  | _ => cases h
theorem sqA_of {K : PySem.W.Frag} {H : Hp} {k : Bool} {a : Addr} {xs : List V} (h : H a = some (if k = true then HO.lst xs else HO.tup xs)) : SqA k K H a xs := by
  cases k with
  | true => exact .inl (.inl h)
  | false => exact .inl (.inl h)
theorem bagsUp {w w1 : Wl} {H : Hp} {σ : L2.St} (A : At (fr.at w) σ H w1) : ∀ (n : Nat) (a : Addr), w.B[n]? = some a → w1.B[n]? = some a := by
  obtain ⟨Cx, e, _⟩ := A.stp.bags
  intro n z hz
  rw [e]
  show (w.B ++ Cx)[n]? = some z
  rw [List.getElem?_append_left (List.getElem?_eq_some_iff.mp hz).1]
  exact hz
theorem itOk_enum {w : Wl} {K : PySem.W.Frag} {k : Bool} {x : Addr} {xs : List V} {l : List D} (h : w.F x = some (if k = true then HO.lst xs else HO.tup xs)) (r : Reps w.F w.B xs l) : ItOk fr w (enumFrom 0 l) (IteA k K x) := by
  have ln : (enumFrom 0 l).length = xs.length := by rw [enumFrom_len, r.length]
  refine ⟨fun H => SqA k K H x xs, (IteA k K x).yld, ⟨fun i H hi hg => ⟨xs, xs[i]'(by omega), hg, List.getElem?_eq_getElem (by omega)⟩, fun H hg => ⟨xs, hg, ln.symm⟩, fun i H y H' hi hg hy => hy⟩, fun σ H w1 A => sqA_of (A.good.sub _ _ (A.stp.sub _ _ h)), fun i H y H' σ w1 hi A q => ?_⟩
  obtain ⟨T, x', rfl, hT, rfl, hx⟩ := q
  have hx' := hx xs (sqA_of (A.good.sub _ _ (A.stp.sub _ _ h)))
  obtain ⟨d, h1, h2⟩ := r.get' hx'
  have h2' : Rep w1.F w1.B x' d := h2.mono A.stp.sub (bagsUp A)
  refine ⟨w1.shut T (.tup [.int (i : Nat), x']), .tup [.int (i : Nat), d], A.lay nt_tup hT, Nx.lay A hT, rfl, rfl, ?_, ?_⟩
  · have := enumFrom_at (i := 0) h1
    rwa [Nat.zero_add] at this
  · have k1 : ∀ b u, w1.F b = some u → (w1.shut T (.tup [.int (i : Nat), x'])).F b = some u := fun b u hb => by
      show upd w1.F T _ b = some u
      rw [upd_ne (ne_of_none hb (A.newF hT))]; exact hb
    exact .tup (show upd w1.F T _ T = _ from upd_same) (.cons (.int _) (.cons (h2'.mono k1 fun _ _ h => h) .nil))
theorem itOk_zip {w : Wl} {K : PySem.W.Frag} {k j : Bool} {x y : Addr} {xs ys : List V} {l m : List D} (h : w.F x = some (if k = true then HO.lst xs else HO.tup xs)) (r : Reps w.F w.B xs l) (h' : w.F y = some (if j = true then HO.lst ys else HO.tup ys)) (r' : Reps w.F w.B ys m) : ItOk fr w (zipD l m) (ItzA k j K x y) := by
  have ln : (zipD l m).length = min xs.length ys.length := by rw [zipD_len, r.length, r'.length]
  refine ⟨fun H => SqA k K H x xs ∧ SqA j K H y ys, (ItzA k j K x y).yld, ⟨fun i H hi hg => ⟨xs, ys, xs[i]'(by omega), ys[i]'(by omega), hg.1, hg.2, List.getElem?_eq_getElem (by omega), List.getElem?_eq_getElem (by omega)⟩, fun H hg => ⟨xs, ys, hg.1, hg.2, ln⟩, fun i H y H' hi hg hy => hy⟩, fun σ H w1 A => ⟨sqA_of (A.good.sub _ _ (A.stp.sub _ _ h)), sqA_of (A.good.sub _ _ (A.stp.sub _ _ h'))⟩, fun i H v H' σ w1 hi A q => ?_⟩
  obtain ⟨T, x', y', rfl, hT, rfl, hx, hy⟩ := q
  obtain ⟨d, h1, h2⟩ := r.get' (hx xs (sqA_of (A.good.sub _ _ (A.stp.sub _ _ h))))
  obtain ⟨d', h1', h2'⟩ := r'.get' (hy ys (sqA_of (A.good.sub _ _ (A.stp.sub _ _ h'))))
  have g : Rep w1.F w1.B x' d := h2.mono A.stp.sub (bagsUp A)
  have g' : Rep w1.F w1.B y' d' := h2'.mono A.stp.sub (bagsUp A)
  refine ⟨w1.shut T (.tup [x', y']), .tup [d, d'], A.lay nt_tup hT, Nx.lay A hT, rfl, rfl, zipD_at h1 h1', ?_⟩
  have k1 : ∀ b u, w1.F b = some u → (w1.shut T (.tup [x', y'])).F b = some u := fun b u hb => by
    show upd w1.F T _ b = some u
    rw [upd_ne (ne_of_none hb (A.newF hT))]; exact hb
  exact .tup (show upd w1.F T _ T = _ from upd_same) (.cons (g.mono k1 fun _ _ h => h) (.cons (g'.mono k1 fun _ _ h => h) .nil))
theorem pi_enumG (c : CtxOk C X fr W Φ) (hg : C.sc.names.lookup ("enumerate" : Str) = some .globalImplicit) (ha : PA X [a] (LA fr W Φ ms)) (hs : starEach [a] X.env = [(false, eval a X.env)]) :
    PI X (.Tuple elts kk tpos) (.Call (.Name "enumerate" p) [a] [] pos) (LI fr W Φ (mEnum ms)) := by
  refine PI.imp (pi_enumA (show X.env.scope.names.lookup ("enumerate" : Str) = _ by rw [c.sc]; exact hg) (c.free _ (by decide)) ha hs) fun σ H R ⟨w, A, r⟩ => ⟨w, A, (ResG.bind (Rel' := RelA) antiI r).imp ?_⟩
  rintro vs H1 ⟨ds, w1, A1, N1, R1, h1⟩
  cases R1 with
  | nil => exact h1.elim
  | cons q1 q2 =>
    rename_i v d vs ds
    cases q2 with
    | cons _ _ => exact h1.elim
    | nil =>
      have h2 : ResG fr W σ H1 w1 (RelI fr) R (match seqOf d with
        | some l => .ok (enumFrom 0 l) ⟨w1.ρ, w1.S⟩
        | none => .no) := h1
      cases e : seqOf d with
      | none => rw [e] at h2; exact h2.elim
      | some l =>
        rw [e] at h2
        obtain ⟨k, x, xs, rfl, hx, rx⟩ := repSeq q1 e
        exact ⟨k, x, xs, rfl, sqA_of (A1.good.sub _ _ hx), h2.here A1 (itOk_enum hx rx)⟩
theorem pi_zipG (c : CtxOk C X fr W Φ) (hg : C.sc.names.lookup ("zip" : Str) = some .globalImplicit) (ha : PA X [a, b] (LA fr W Φ ms)) (hs : starEach [a, b] X.env = (false, eval a X.env) :: starEach [b] X.env) (hpl : (backTo pos (starEach [b] X.env)).any (·.1) = false) :
    PI X (.Tuple elts kk tpos) (.Call (.Name "zip" p) [a, b] [] pos) (LI fr W Φ (mZip ms)) := by
  refine PI.imp (pi_zipB (show X.env.scope.names.lookup ("zip" : Str) = _ by rw [c.sc]; exact hg) (c.free _ (by decide)) ha hs hpl) fun σ H R ⟨w, A, r⟩ => ⟨w, A, (ResG.bind (Rel' := RelA) antiI r).imp ?_⟩
  rintro vs H1 ⟨ds, w1, A1, N1, R1, h1⟩
  cases R1 with
  | nil => exact h1.elim
  | cons q1 q2 =>
    rename_i v d vs ds
    cases q2 with
    | nil => exact h1.elim
    | cons q2 q3 =>
      rename_i v2 d2 vs2 ds2
      cases q3 with
      | cons _ _ => exact h1.elim
      | nil =>
        have h2 : ResG fr W σ H1 w1 (RelI fr) R (match seqOf d, seqOf d2 with
          | some l, some q => .ok (zipD l q) ⟨w1.ρ, w1.S⟩
          | _, _ => .no) := h1
        cases e : seqOf d with
        | none => rw [e] at h2; exact h2.elim
        | some l =>
          cases e2 : seqOf d2 with
          | none => rw [e, e2] at h2; exact h2.elim
          | some m =>
            rw [e, e2] at h2
            obtain ⟨k, x, xs, rfl, hx, rx⟩ := repSeq q1 e
            obtain ⟨j, y, ys, rfl, hy, ry⟩ := repSeq q2 e2
            exact ⟨k, j, x, y, xs, ys, rfl, sqA_of (A1.good.sub _ _ hx), sqA_of (A1.good.sub _ _ hy), h2.here A1 (itOk_zip hx rx hy ry)⟩
end
end DL
end

section
set_option Elab.async false
set_option linter.all false
set_option maxRecDepth 100000
set_option autoImplicit false
set_option maxHeartbeats 1000000
/-! DL14: several results at once; a, b = x, y. -/
namespace DL
open PySem PySem.Spec PyProof.Rows L2

def mRs : List (M R) → M (List R)
  | [] => fun _ s => .ok [] s
  | m :: r => fun Φ s => (m Φ s).bind fun x s1 => (mRs r Φ s1).bind fun xs s2 => .ok (x :: xs) s2
def OwnIn (a : Addr) (vs : List V) (rs : List R) : Prop := ∃ (j : Nat) (c : Cont), rs[j]? = some (.own c) ∧ vs[j]? = some (.ref a)
def isBor : R → Bool
  | .bor _ => true
  | _ => false
inductive RelRs (σ : L2.St) (Hs H : Hp) (w : Wl) : List V → List R → Prop
  | nil : RelRs σ Hs H w [] []
  | cons {v : V} {r : R} {vs : List V} {rs : List R} : RelR σ Hs H w v r → (∀ a c, r = .own c → v = .ref a → ¬ OwnIn a vs rs) → RelRs σ Hs H w vs rs → RelRs σ Hs H w (v :: vs) (r :: rs)
theorem RelRs.own {σ : L2.St} {Hs H : Hp} {w : Wl} {a : Addr} : ∀ {vs : List V} {rs : List R}, RelRs σ Hs H w vs rs → OwnIn a vs rs → Hs a = none ∧ ∃ o, H a = some o
  | _, _, .nil, ⟨j, c, h, _⟩ => by simp at h
  | _, _, .cons r _ t, ⟨0, c, h1, h2⟩ => by
    simp at h1 h2
    subst h1 h2
    obtain ⟨b, e, q1, q2, q3, q4, o, q5, _⟩ := r
    cases e
    exact ⟨q1, o, q5⟩
  | _, _, .cons _ _ t, ⟨j + 1, c, h1, h2⟩ => RelRs.own t ⟨j, c, by simpa using h1, by simpa using h2⟩
theorem RelRs.anti {σ : L2.St} {Hs Hs' H : Hp} {w : Wl} (k : ∀ x o, Hs x = some o → ∃ o', Hs' x = some o') : ∀ {vs : List V} {rs : List R}, RelRs σ Hs' H w vs rs → RelRs σ Hs H w vs rs
  | _, _, .nil => .nil
  | _, _, .cons r d t => .cons (antiR _ _ _ _ _ _ k r) d (RelRs.anti k t)
abbrev LRs (fr : Fr) (W : WX) (Φ : PhiT) (m : M (List R)) : TA := fun σ H Q => LiftG fr W Φ (RelRs σ) m σ H Q
section
variable {fr : Fr} {W : WX} {Φ : PhiT} {σ : L2.St} {H H1 H2 : Hp} {w w1 w2 : Wl}
theorem ResG.bind2 {α β α' β' : Type} {Rel : Rl α β} {Rel' : Rl α' β'} {Q : β → Hp → Prop} {o : Out α'} {f : α' → Sta → Out α} (h : ResG fr W σ H w Rel Q (o.bind f)) :
    ResG fr W σ H w Rel' (fun b H1 => ∃ a w1, At fr σ H1 w1 ∧ Nx σ H w H1 w1 ∧ Rel' H H1 w1 b a ∧ ResG fr W σ H1 w1 (fun _ => Rel H) Q (f a ⟨w1.ρ, w1.S⟩)) o := by
  cases o with
  | ok r s =>
    intro b H1 w1 e1 e2 A N R
    refine ⟨r, w1, A, N, R, ?_⟩
    have h' : ResG fr W σ H w Rel Q (f r s) := h
    have e : (⟨w1.ρ, w1.S⟩ : Sta) = s := by cases s; simp_all
    rw [e]
    generalize f r s = o2 at h' ⊢
    cases o2 with
    | ok r2 s2 => exact fun b2 H2 w2 e3 e4 A2 N2 R2 => h' b2 H2 w2 e3 e4 A2 (N.trans N2) R2
    | ex x s2 => exact h'
    | no => exact h'
  | ex x s => exact h
  | no => exact h
/-- an own result is still own behind what does not touch it -/
theorem RelR.nx {v : V} {r : R} (A1 : At fr σ H1 w1) (N : Nx σ H1 w1 H2 w2) (R : RelR σ H H1 w1 v r) : RelR σ H H2 w2 v r := by
  cases r with
  | val d => exact N.rep R
  | bor d => exact N.pk R
  | own c =>
    obtain ⟨a, e, h1, h2, h3, h4, o, h5, h6⟩ := R
    obtain ⟨C, eB, hC⟩ := N.bags
    refine ⟨a, e, h1, ?_, ?_, fun z => h4 (N.own a z), o, N.keep a o h5 h6.nt h3, h6.mono N.sub N.bmono⟩
    · cases e2 : w2.F a with
      | none => rfl
      | some u =>
        rcases N.fz a u e2 with z | z | z
        · rw [h2] at z; cases z
        · rw [h5] at z; cases z
        · exact absurd z h4
    · rw [eB]
      intro z
      rcases List.mem_append.mp z with z | z
      · exact h3 z
      · rw [hC a z] at h5; cases h5
variable {X : Cx} {e : Expr} {es : List Expr} {m : M R} {ml : List (M R)}
theorem pa_nilR : PA X [] (LRs fr W Φ (mRs [])) := PA.imp pa_nil fun σ H Q ⟨w, A, r⟩ => r.here A .nil
theorem pa_consR (h : PE X e (LE fr W Φ m)) (hs : PA X es (LRs fr W Φ (mRs ml))) (hst : starEach (e :: es) X.env = (false, eval e X.env) :: starEach es X.env) : PA X (e :: es) (LRs fr W Φ (mRs (m :: ml))) := by
  refine PA.imp (pa_cons h hs hst) fun σ H Q ⟨w, A, r⟩ => ?_
  refine ⟨w, A, (ResG.bind2 (Rel' := RelR σ) r).imp ?_⟩
  rintro x H1 ⟨d, w1, A1, N1, R1, h1⟩
  refine ⟨w1, A1, (ResG.bind2 (Rel' := RelRs σ) h1).imp ?_⟩
  rintro xs H2 ⟨ds, w2, A2, N2, R2, h2⟩
  refine h2.here A2 ?_
  refine .cons (R1.nx A1 N2) (fun a c e1 e2 z => ?_) (R2.anti N1.there)
  subst e1 e2
  obtain ⟨b, e3, q1, q2, q3, q4, o, q5, _⟩ := R1
  cases e3
  have := (R2.own z).1
  rw [q5] at this; cases this
end
/-! ### stored one after the other -/
def parR : List Nat → List R → List (Option Slot) → Option (List (Option Slot))
  | [], [], ρ => some ρ
  | i :: is, r :: rs, ρ => (match slotOf r with
    | some sl => if i < ρ.length then parR is rs (ρ.set i (some sl)) else none
    | none => none)
  | _, _, _ => none
def setsV : L2.St → List Nat → List V → L2.St
  | σ, i :: is, v :: vs => setsV (σ.set i (some v)) is vs
  | σ, _, _ => σ
theorem par_at {fr : Fr} {Hs H : Hp} (h0 : ∀ a, Hs a = none → fr.H0 a = none) : ∀ {is : List Nat} {vs : List V} {rs : List R} {σ : L2.St} {w : Wl} {ρ' : List (Option Slot)}, At fr σ H w → RelRs σ Hs H w vs rs → parR is rs w.ρ = some ρ' → At fr (setsV σ is vs) H { w with ρ := ρ' }
  | [], _, _, σ, w, ρ', A, .nil, e => by cases e; exact A
  | [], _, _, _, _, _, _, .cons _ _ _, e => by cases e
  | _ :: _, _, _, _, _, _, _, .nil, e => by cases e
  | i :: is, v :: vs, r :: rs, σ, w, ρ', A, .cons R0 d t, e => by
    have e' : (match slotOf r with
      | some sl => if i < w.ρ.length then parR is rs (w.ρ.set i (some sl)) else none
      | none => none) = some ρ' := e
    cases es : slotOf r with
    | none => rw [es] at e'; cases e'
    | some sl =>
      rw [es] at e'
      by_cases hi : i < w.ρ.length
      · have e2 : (if i < w.ρ.length then parR is rs (w.ρ.set i (some sl)) else none) = some ρ' := e'
        rw [if_pos hi] at e2
        have A1 := A.assign h0 hi R0 es
        have hl : i < σ.length := by rw [← A.slots.len]; exact hi
        have key : ∀ {us : List V} {qs : List R}, (∀ a c, r = .own c → v = .ref a → ¬ OwnIn a us qs) → RelRs σ Hs H w us qs → RelRs (σ.set i (some v)) Hs H (w.put i (some sl)) us qs := by
          intro us qs hd ht
          induction ht with
          | nil => exact .nil
          | @cons u q us qs R2 d2 t2 ih =>
            refine .cons ?_ d2 (ih fun a c e1 e2 ⟨j, c', z1, z2⟩ => hd a c e1 e2 ⟨j + 1, c', by simpa using z1, by simpa using z2⟩)
            cases q with
            | val d => exact R2
            | bor d => exact R2
            | own k =>
              obtain ⟨a, e3, q1, q2, q3, q4, q5⟩ := R2
              refine ⟨a, e3, q1, q2, q3, fun ⟨j, c, z1, z2⟩ => ?_, q5⟩
              by_cases ej : j = i
              · subst ej
                have z1' : (w.ρ.set j (some sl))[j]? = some (some (.own c)) := z1
                rw [List.getElem?_set_self hi] at z1'
                rw [List.getElem?_set_self hl] at z2
                cases z1'
                cases z2
                have er : r = .own c := by cases r <;> first | (cases es; rfl) | cases es
                exact hd a c er rfl ⟨0, k, by simp, by simp [e3]⟩
              · have z1' : (w.ρ.set i (some sl))[j]? = some (some (.own c)) := z1
                rw [List.getElem?_set_ne (Ne.symm ej)] at z1' z2
                exact q4 ⟨j, c, z1', z2⟩
        have q := par_at (is := is) (vs := vs) (rs := rs) (σ := σ.set i (some v)) (w := w.put i (some sl)) (ρ' := ρ') h0 A1 (key d t) e2
        exact q
      · have e2 : (if i < w.ρ.length then parR is rs (w.ρ.set i (some sl)) else none) = some ρ' := e'
        rw [if_neg hi] at e2; cases e2
def mPar (is : List Nat) (m : M (List R)) : M Fl := fun Φ s => (m Φ s).bind fun rs s1 => match parR is rs s1.ρ with
  | some ρ' => .ok .nx { s1 with ρ := ρ' }
  | none => .no
section
variable {C : Cs} {X : Cx} {fr : Fr} {W : WX} {Φ : PhiT} {ms : M (List R)} {pos px py pz pt : Pos} {kt k2 : Nat} {pt2 : Pos}
theorem RelRs.len {σ : L2.St} {Hs H : Hp} {w : Wl} : ∀ {vs : List V} {rs : List R}, RelRs σ Hs H w vs rs → vs.length = rs.length
  | _, _, .nil => rfl
  | _, _, .cons _ _ t => by simp [RelRs.len t]
theorem parR_len : ∀ {is : List Nat} {rs : List R} {ρ ρ' : List (Option Slot)}, parR is rs ρ = some ρ' → is.length = rs.length
  | [], [], _, _, _ => rfl
  | [], _ :: _, _, _, e => by cases e
  | _ :: _, [], _, _, e => by cases e
  | i :: is, r :: rs, ρ, ρ', e => by
    have e' : (match slotOf r with
      | some sl => if i < ρ.length then parR is rs (ρ.set i (some sl)) else none
      | none => none) = some ρ' := e
    split at e'
    · split at e'
      · simp [parR_len e']
      · cases e'
    · cases e'
theorem par_res {σ : L2.St} {H : Hp} {w : Wl} {is : List Nat} {D : Ends} {vs : List V} {H1 : Hp} (A : At fr σ H w) (h : ∃ rs w1, At fr σ H1 w1 ∧ Nx σ H w H1 w1 ∧ RelRs σ H H1 w1 vs rs ∧ ResS fr W D (match parR is rs w1.ρ with
    | some ρ' => .ok .nx ⟨ρ', w1.S⟩
    | none => .no)) : vs.length = is.length ∧ D.nx (setsV σ is vs) H1 := by
  obtain ⟨rs, w1, A1, N1, R1, h1⟩ := h
  cases e : parR is rs w1.ρ with
  | none => rw [e] at h1; exact h1.elim
  | some ρ' =>
    rw [e] at h1
    exact ⟨R1.len.trans (parR_len e).symm, h1 _ H1 { w1 with ρ := ρ' } rfl rfl (par_at (fun a ha => A.new0 ha) A1 R1 e)⟩
theorem ps_par2G {i j : Nat} {x y : Str} {a b : Expr} (c : CtxOk C X fr W Φ) (hi : C.N[i]? = some x) (hj : C.N[j]? = some y) (hij : i ≠ j)
    (hx : C.sc.names.lookup x = some .local) (hy : C.sc.names.lookup y = some .local) (ha : PA X [a, b] (LRs fr W Φ ms))
    (hw : swappedStores [.Tuple [.Name x px, .Name y py] kt pt] (.Tuple [a, b] k2 pt2) X.env = Pure.pure (some [x, y]))
    (hs : swapsWithSole [.Tuple [.Name x px, .Name y py] kt pt] (.Tuple [a, b] k2 pt2) pos.line X.env = Pure.pure false) :
    PS X (.Assign [.Tuple [.Name x px, .Name y py] kt pt] (.Tuple [a, b] k2 pt2) pos) (LS fr W Φ (mPar [i, j] ms)) := by
  refine PS.imp (ps_par c.calm c.nd (by rw [c.N]; exact hi) (by rw [c.N]; exact hj) hij (by rw [c.sc]; exact hx) (by rw [c.sc]; exact hy) ha hw hs) fun D σ H ⟨w, A, r⟩ => ⟨w, A, (ResS.bind (Rel := RelRs σ) r).imp ?_⟩
  intro vs H1 h
  obtain ⟨hl, q⟩ := par_res A h
  match vs, hl, q with
  | [u, v], _, q => exact ⟨u, v, rfl, q⟩
theorem ps_par3G {i j l : Nat} {x y z : Str} {a b d : Expr} (c : CtxOk C X fr W Φ) (hi : C.N[i]? = some x) (hj : C.N[j]? = some y) (hl : C.N[l]? = some z) (hij : i ≠ j) (hil : i ≠ l) (hjl : j ≠ l)
    (hx : C.sc.names.lookup x = some .local) (hy : C.sc.names.lookup y = some .local) (hz : C.sc.names.lookup z = some .local) (ha : PA X [a, b, d] (LRs fr W Φ ms))
    (hw : swappedStores [.Tuple [.Name x px, .Name y py, .Name z pz] kt pt] (.Tuple [a, b, d] k2 pt2) X.env = Pure.pure (some [x, y, z]))
    (hs : swapsWithSole [.Tuple [.Name x px, .Name y py, .Name z pz] kt pt] (.Tuple [a, b, d] k2 pt2) pos.line X.env = Pure.pure false) :
    PS X (.Assign [.Tuple [.Name x px, .Name y py, .Name z pz] kt pt] (.Tuple [a, b, d] k2 pt2) pos) (LS fr W Φ (mPar [i, j, l] ms)) := by
  refine PS.imp (ps_par3 c.calm c.nd (by rw [c.N]; exact hi) (by rw [c.N]; exact hj) (by rw [c.N]; exact hl) hij hil hjl (by rw [c.sc]; exact hx) (by rw [c.sc]; exact hy) (by rw [c.sc]; exact hz) ha hw hs) fun D σ H ⟨w, A, r⟩ => ⟨w, A, (ResS.bind (Rel := RelRs σ) r).imp ?_⟩
  intro vs H1 h
  obtain ⟨hl, q⟩ := par_res A h
  match vs, hl, q with
  | [u, v, t], _, q => exact ⟨u, v, t, rfl, q⟩
end
end DL
end

section
set_option Elab.async false
set_option linter.all false
set_option maxRecDepth 100000
set_option autoImplicit false
set_option maxHeartbeats 1000000
/-! DL15: dicts. -/
namespace DL
open PySem PySem.Spec PyProof.Rows L2

mutual
def kEq : D → D → Bool
  | .int i, .int j => decide (i = j)
  | .str x, .str y => decide (x = y)
  | .tup l, .tup m => kEqs l m
  | _, _ => false
def kEqs : List D → List D → Bool
  | [], [] => true
  | a :: r, b :: q => kEq a b && kEqs r q
  | _, _ => false
end
def getD (l : List (D × D)) (k : D) : Option D := (l.find? fun p => kEq p.1 k).map (·.2)
def putD (l : List (D × D)) (k v : D) : List (D × D) := if (l.any fun p => kEq p.1 k) = true then l.map (fun p => if kEq p.1 k = true then (p.1, v) else p) else l ++ [(k, v)]
def keyOf : D → Option Key
  | .int i => some (.inl i)
  | .str x => some (.inr x)
  | _ => none
theorem keyOf_d {d : D} {k : Key} (h : keyOf d = some k) : d = keyD k := by
  cases d <;> first | cases h | skip
  · rfl
  · rfl
theorem kEq_key (k j : Key) : kEq (keyD k) (keyD j) = decide (k = j) := by
  cases k <;> cases j <;> simp [keyD, kEq]
theorem kEq_some {k : Key} {d : D} (h : kEq (keyD k) d = true) : d = keyD k := by
  cases k with
  | inl i =>
    cases d <;> first | (simp [keyD, kEq] at h; done) | skip
    simp [keyD, kEq] at h ⊢
    exact h.symm
  | inr x =>
    cases d <;> first | (simp [keyD, kEq] at h; done) | skip
    simp [keyD, kEq] at h ⊢
    exact h.symm
section
variable {F : Hp} {B : List Addr}
theorem repK_get (k : Key) : ∀ {kvs : List (Key × V)} {l : List (D × D)}, RepK F B kvs l → match getD l (keyD k) with
    | some d => ∃ v, valV kvs k = some v ∧ Rep F B v d
    | none => valV kvs k = none
  | _, _, .nil => rfl
  | _, _, .cons (k := j) (v := u) (d := e) (vs := r) (ds := q) h t => by
    have ih := repK_get k t
    unfold getD valV at ih ⊢
    rw [List.find?_cons, List.find?_cons]
    show match Option.map (·.2) (match kEq (keyD j) (keyD k) with
      | true => some (keyD j, e)
      | false => List.find? (fun p => kEq p.1 (keyD k)) q) with
      | some d => ∃ v, Option.map (·.2) (match decide (j = k) with
        | true => some (j, u)
        | false => List.find? (fun kv => decide (kv.1 = k)) r) = some v ∧ Rep F B v d
      | none => Option.map (·.2) (match decide (j = k) with
        | true => some (j, u)
        | false => List.find? (fun kv => decide (kv.1 = k)) r) = none
    rw [kEq_key]
    cases hd : decide (j = k) with
    | true => exact ⟨u, rfl, h⟩
    | false => exact ih
theorem repK_key {y : D} {d : D} : ∀ {kvs : List (Key × V)} {l : List (D × D)}, RepK F B kvs l → getD l y = some d → ∃ k, y = keyD k
  | _, _, .nil, h => by cases h
  | _, _, .cons (k := j) (v := u) (d := e) (vs := r) (ds := q) h t, hg => by
    unfold getD at hg
    rw [List.find?_cons] at hg
    cases hd : kEq (keyD j) y with
    | true => exact ⟨j, kEq_some hd⟩
    | false =>
      have hg' : Option.map (·.2) (match kEq (keyD j) y with
        | true => some (keyD j, e)
        | false => List.find? (fun p => kEq p.1 y) q) = some d := hg
      rw [hd] at hg'
      exact repK_key t hg'
theorem repK_any (k : Key) : ∀ {kvs : List (Key × V)} {l : List (D × D)}, RepK F B kvs l → (l.any fun p => kEq p.1 (keyD k)) = (kvs.any fun kv => decide (kv.1 = k))
  | _, _, .nil => rfl
  | _, _, .cons (k := j) h t => by
    rw [List.any_cons, List.any_cons, repK_any k t]
    show (kEq (keyD j) (keyD k) || _) = _
    rw [kEq_key]
theorem repK_map (k : Key) {v : V} {d : D} (hv : Rep F B v d) : ∀ {kvs : List (Key × V)} {l : List (D × D)}, RepK F B kvs l → RepK F B (kvs.map fun kv => if kv.1 = k then (kv.1, v) else kv) (l.map fun p => if kEq p.1 (keyD k) = true then (p.1, d) else p)
  | _, _, .nil => .nil
  | _, _, .cons (k := j) (v := u) (d := e) h t => by
    have ih := repK_map k hv t
    rw [List.map_cons, List.map_cons]
    by_cases hj : j = k
    · have e1 : kEq (keyD j) (keyD k) = true := by rw [kEq_key]; exact decide_eq_true hj
      rw [if_pos hj, if_pos e1]
      exact .cons hv ih
    · have e1 : ¬ kEq (keyD j) (keyD k) = true := by rw [kEq_key]; simpa using hj
      rw [if_neg hj, if_neg e1]
      exact .cons h ih
theorem repK_app : ∀ {kvs kvs' : List (Key × V)} {l l' : List (D × D)}, RepK F B kvs l → RepK F B kvs' l' → RepK F B (kvs ++ kvs') (l ++ l')
  | _, _, _, _, .nil, s => s
  | _, _, _, _, .cons h t, s => .cons h (repK_app t s)
theorem repK_put (k : Key) {v : V} {d : D} (hv : Rep F B v d) {kvs : List (Key × V)} {l : List (D × D)} (r : RepK F B kvs l) : RepK F B (putK kvs k v) (putD l (keyD k) d) := by
  unfold putK putD
  rw [repK_any k r]
  by_cases h : (kvs.any fun kv => decide (kv.1 = k)) = true
  · rw [if_pos h, if_pos h]; exact repK_map k hv r
  · rw [if_neg h, if_neg h]; exact repK_app r (.cons hv .nil)
theorem repK_len : ∀ {kvs : List (Key × V)} {l : List (D × D)}, RepK F B kvs l → kvs.length = l.length
  | _, _, .nil => rfl
  | _, _, .cons _ t => by simp [repK_len t]
variable {H : Hp}
theorem pk_dct {v : V} {l : List (D × D)} (hs : ∀ a o, F a = some o → H a = some o) (R : Pk H F B v (.dct l)) : ∃ a kvs, v = .ref a ∧ H a = some (.dK kvs) ∧ RepK F B kvs l := by
  cases R with
  | rep R => cases R with | dK h r => exact ⟨_, _, rfl, hs _ _ h, r⟩
  | dK h _ r => exact ⟨_, _, rfl, h, r⟩
theorem pk_key {v : V} {k : Key} (R : Pk H F B v (keyD k)) : v = kV k := by
  cases k with
  | inl i => cases R with | rep R => cases R; rfl
  | inr x => cases R with | rep R => cases R; rfl
end
/-! ### looking up -/
section
variable {X : Cx}
abbrev rIxD : R2 := fun x y H Q => ∃ a v, x = .ref a ∧ DGet H a y (some v) ∧ Q v H
theorem ix_dict (hu : X.A.units + 1 < cLine) : IxR X rIxD := by
  intro value slice pins s σ H x y v u Q I rx ry h hs
  obtain ⟨a, z, rfl, g, q⟩ := h
  cases rx
  have hT := dict_typeIs I g
  unfold subscriptTail
  refine wpAny_bind ?_
  rw [getitemInPython_of_ne hT.not_modules]
  refine wpAny_bind (wpAny_specialOf hT PySem.F.slot_dict_getitem.lookup ?_)
  have fin : wpAny (model X.prog X.w) X.A (subscripted slice false (.ref a) u) (fun r s₃ => wpAny (model X.prog X.w) X.A (letTemporaryGo value (.ref a) r >>= fun _ => Pure.pure r) (EP X pins σ Q) X.xe s₃) X.xe s := by
    rw [hs]
    refine wpAny_operating (d_getItem hu I g ry fun w' s3 I3 rw' => wpAny_bind (wpAny_letTemporaryGo (wpAny_pure ⟨z, H, I3, rw', q⟩)))
  first
    | exact wpAny_pure (wpAny_bind fin)
    | exact wpAny_bind (wpAny_pure (wpAny_bind fin))
    | exact wpAny_bind fin
abbrev rInDc (neg : Bool) : R2 := fun x y H Q => ∃ a o, y = .ref a ∧ DGet H a x o ∧ Q (.bl (if neg = true then !o.isSome else o.isSome)) H
theorem op_inDc (hu : X.A.units + 1 < cLine) : OpR X (compareOp .In) (rInDc false) := by
  intro pins s σ H x y v u Q I rx ry h
  obtain ⟨a, o, rfl, g, q⟩ := h
  cases ry
  exact d_in hu I g rx fun s' I' => ⟨.bl o.isSome, H, I', rfl, q⟩
theorem op_notInDc (hu : X.A.units + 1 < cLine) : OpR X (compareOp .NotIn) (rInDc true) := by
  intro pins s σ H x y v u Q I rx ry h
  obtain ⟨a, o, rfl, g, q⟩ := h
  cases ry
  exact d_notIn hu I g rx fun s' I' => ⟨.bl (!o.isSome), H, I', rfl, q⟩
def opInA (a b : D) : Option R := match b with
  | .dct l => (match keyOf a with
    | some _ => some (.val (.bl (getD l a).isSome))
    | none => none)
  | b => opIn a b
def opNotInA (a b : D) : Option R := match b with
  | .dct l => (match keyOf a with
    | some _ => some (.val (.bl (!(getD l a).isSome)))
    | none => none)
  | b => opNotIn a b
theorem dget_of {F H : Hp} {B : List Addr} {x : V} {k : Key} {a : Addr} {kvs : List (Key × V)} {l : List (D × D)} (R : Pk H F B x (keyD k)) (h : H a = some (.dK kvs)) (r : RepK F B kvs l) :
    DGet H a x (valV kvs k) ∧ (valV kvs k).isSome = (getD l (keyD k)).isSome := by
  have e := pk_key R
  subst e
  refine ⟨DGet.k h, ?_⟩
  have q := repK_get k r
  cases e : getD l (keyD k) with
  | none => rw [e] at q; rw [q]; rfl
  | some d =>
    rw [e] at q
    obtain ⟨v, h1, _⟩ := q
    rw [h1]; rfl
theorem vs_inA : VS2 X (fun x y H Q => rInP X.K false x y H Q ∨ rInDc false x y H Q) opInA := by
  intro fr W Φ σ H w Q v1 v2 d1 d2 A R1 R2 h
  cases d2 with
  | dct l =>
    have h' : ResG fr W σ H w (RelR σ) Q (ofO (match keyOf d1 with
      | some _ => some (.val (.bl (getD l d1).isSome))
      | none => none) Φ ⟨w.ρ, w.S⟩) := h
    cases e : keyOf d1 with
    | none => rw [e] at h'; exact h'.elim
    | some k =>
      rw [e] at h'
      have ek := keyOf_d e
      subst ek
      obtain ⟨a, kvs, rfl, h1, h2⟩ := pk_dct A.good.sub R2
      obtain ⟨g, e2⟩ := dget_of R1 h1 h2
      refine .inr ⟨a, _, rfl, g, ?_⟩
      rw [e2]
      exact ans (Φ := Φ) h' A rfl (.bl _)
  | _ => exact .inl (vs_in (X := X) fr W Φ σ H w Q v1 v2 d1 _ A R1 R2 h)
theorem vs_notInA : VS2 X (fun x y H Q => rInP X.K true x y H Q ∨ rInDc true x y H Q) opNotInA := by
  intro fr W Φ σ H w Q v1 v2 d1 d2 A R1 R2 h
  cases d2 with
  | dct l =>
    have h' : ResG fr W σ H w (RelR σ) Q (ofO (match keyOf d1 with
      | some _ => some (.val (.bl (!(getD l d1).isSome)))
      | none => none) Φ ⟨w.ρ, w.S⟩) := h
    cases e : keyOf d1 with
    | none => rw [e] at h'; exact h'.elim
    | some k =>
      rw [e] at h'
      have ek := keyOf_d e
      subst ek
      obtain ⟨a, kvs, rfl, h1, h2⟩ := pk_dct A.good.sub R2
      obtain ⟨g, e2⟩ := dget_of R1 h1 h2
      refine .inr ⟨a, _, rfl, g, ?_⟩
      rw [e2]
      exact ans (Φ := Φ) h' A rfl (.bl _)
  | _ => exact .inl (vs_notIn (X := X) fr W Φ σ H w Q v1 v2 d1 _ A R1 R2 h)
end
def opIxA (S : Store) (x y : D) : Option R := match x with
  | .dct l => (getD l y).map R.val
  | x => opIxS S x y
def mIxA (a b : M R) : M R := fun Φ s => (mOpd a Φ s).bind fun x s1 => (mOpd b Φ s1).bind fun y s2 => ofO (opIxA s2.S x y) Φ s2
section
variable {C : Cs} {X : Cx} {fr : Fr} {W : WX} {Φ : PhiT} {pos p p' : Pos} {a b e : Expr} {ma mb m : M R}
/-- the lookup's reading, at the two values -/
theorem ixS_at {σ : L2.St} {H2 : Hp} {w2 : Wl} {Q : VK} {x y : V} {d1 d2 : D} (A2 : At fr σ H2 w2) (R1 : Pk H2 w2.F w2.B x d1) (R2 : Pk H2 w2.F w2.B y d2) (h2 : ResG fr W σ H2 w2 (RelR σ) Q (ofO (opIxS w2.S d1 d2) Φ ⟨w2.ρ, w2.S⟩)) :
    rIxL X.K x y H2 Q ∨ rIxT X.K x y H2 Q := by
  by_cases hb : ∃ n i, d1 = .bag n ∧ d2 = .int i
  · obtain ⟨n, i, rfl, rfl⟩ := hb
    obtain ⟨z, rfl, hz⟩ := pk_bag R1
    obtain ⟨ns, h3, h4⟩ := A2.good.at_bag hz
    have e2 : opIxS w2.S (.bag n) (.int i) = (atI ns i).map fun k => R.val (.int k) := by
      show (match w2.S[n]? with
        | some ns => (atI ns i).map fun k => R.val (.int k)
        | none => none) = _
      rw [h3]
    rw [e2] at h2
    cases ek : atI ns i with
    | none => rw [ek] at h2; exact h2.elim
    | some k =>
      rw [ek] at h2
      refine .inl ⟨z, ns.map V.int, i, .int k, rfl, pk_int R2, .inl (.inl h4), ?_, ans (Φ := Φ) h2 A2 rfl (.int k)⟩
      unfold atI at ek ⊢
      rw [List.length_map]
      cases ej : ixN ns.length i with
      | none => rw [ej] at ek; cases ek
      | some j =>
        rw [ej] at ek
        have ek' : ns[j]? = some k := ek
        show (ns.map V.int)[j]? = some (V.int k)
        rw [List.getElem?_map, ek']; rfl
  · have e2 : opIxS w2.S d1 d2 = opIx d1 d2 := by
      cases d1 <;> first | rfl | skip
      cases d2 <;> first | rfl | skip
      exact absurd ⟨_, _, rfl, rfl⟩ hb
    rw [e2] at h2
    exact vs_ix (X := X) fr W Φ σ H2 w2 Q x y d1 d2 A2 R1 R2 h2
theorem pe_ixA (hu : X.A.units + 1 < cLine) (ha : PE X a (LE fr W Φ ma)) (hb : PE X b (LE fr W Φ mb)) (hs : PlainIx b) : PE X (.Subscript a b pos) (LE fr W Φ (mIxA ma mb)) := by
  refine PE.imp (pe_ix (IxR.or (IxR.or ix_list ix_tup) (ix_dict hu)) (pe_opd ha) (pe_opd hb) hs) fun σ H Q ⟨w, A, h⟩ => ⟨w, A, (ResG.bind (Rel' := RelP) antiR h).imp ?_⟩
  rintro x H1 ⟨d1, w1, A1, N1, R1, h1⟩
  refine ⟨w1, A1, (ResG.bind (Rel' := RelP) antiR h1).imp ?_⟩
  rintro y H2 ⟨d2, w2, A2, N2, R2, h2⟩
  have R1' := N2.pk R1
  cases d1 with
  | dct l =>
    have h' : ResG fr W σ H2 w2 (RelR σ) Q (ofO ((getD l d2).map R.val) Φ ⟨w2.ρ, w2.S⟩) := h2
    cases e : getD l d2 with
    | none => rw [e] at h'; exact h'.elim
    | some d =>
      rw [e] at h'
      obtain ⟨z, kvs, rfl, k1, k2⟩ := pk_dct A2.good.sub R1'
      obtain ⟨k, rfl⟩ := repK_key k2 e
      have q := repK_get k k2
      rw [e] at q
      obtain ⟨v, hv, rv⟩ := q
      have ek := pk_key R2
      subst ek
      refine .inr ⟨z, v, rfl, ?_, ans (Φ := Φ) h' A2 rfl rv⟩
      have g := DGet.k (k := k) k1
      rw [hv] at g
      exact g
  | _ => exact .inl (ixS_at A2 R1' R2 h2)
/-- a new dict -/
def mNewD : M R := fun _ s => .ok (.own (.dct [])) s
theorem pe_newD : PE X (.Dict [] [] pos) (LE fr W Φ mNewD) := by
  refine PE.imp pe_dnewK fun σ H Q ⟨w, A, r⟩ q hq => ?_
  have A' := A.push (o := .dK []) hq
  exact r (.ref q) (upd H q (.dK [])) w rfl rfl A' (Nx.push hq) ⟨q, rfl, hq, A.newF hq, A.newB hq, A.newO hq, _, upd_same, .dK .nil⟩
/-- d[k] = v of the dict in the i-th slot -/
def dctAt (ρ : List (Option Slot)) (i : Nat) : Option (List (D × D)) := match ρ[i]? with
  | some (some (.own (.dct l))) => some l
  | _ => none
theorem dctAt_eq {ρ : List (Option Slot)} {i : Nat} {l : List (D × D)} (h : dctAt ρ i = some l) : ρ[i]? = some (some (.own (.dct l))) := by
  unfold dctAt at h
  split at h <;> first | (cases h; assumption) | cases h
def mDPut (i : Nat) (k m : M R) : M Fl := fun Φ s => (mFrz m Φ s).bind fun v s1 => match dctAt s1.ρ i with
  | none => .no
  | some _ => (mOpd k Φ s1).bind fun kd s2 => match dctAt s2.ρ i, keyOf kd with
    | some l, some _ => if l.length < lim then .ok .nx { s2 with ρ := s2.ρ.set i (some (.own (.dct (putD l kd v)))) } else .no
    | _, _ => .no
theorem ps_dputG {x : Str} {i : Nat} {p2 : Pos} (c : CtxOk C X fr W Φ) (hN : C.N[i]? = some x) (hv : Vis C.sc x) (hd : (x == ("__debug__" : Str)) = false) (hcd : (x == ("__classdict__" : Str)) = false) (hb : PE X b (LE fr W Φ mb)) (he : PE X e (LE fr W Φ m))
    (hs : swapsWith e (some (.Subscript (.Name x p2) b p')) pos.line X.env = Pure.pure false) :
    PS X (.Assign [.Subscript (.Name x p2) b p'] e pos) (LS fr W Φ (mDPut i mb m)) := by
  have hu : X.A.units + 1 < cLine := by have := c.units; omega
  refine PS.imp (ps_dput hu (pe_var (i := i) (by rw [c.N]; exact hN) (by rw [c.sc]; exact hv) hd hcd) (pe_opd hb) (pe_frz he) hs) fun D σ H ⟨w, A, r⟩ => ⟨w, A, (ResS.bind (Rel := RelV') r).imp ?_⟩
  rintro v H1 ⟨dv, w1, A1, N1, R1, h1⟩
  have h1' : ResS fr W D (match dctAt w1.ρ i with
    | none => .no
    | some _ => (mOpd mb Φ ⟨w1.ρ, w1.S⟩).bind fun kd s2 => match dctAt s2.ρ i, keyOf kd with
      | some l, some _ => if l.length < lim then .ok .nx { s2 with ρ := s2.ρ.set i (some (.own (.dct (putD l kd dv)))) } else .no
      | _, _ => .no) := h1
  cases e0 : dctAt w1.ρ i with
  | none => rw [e0] at h1'; exact h1'.elim
  | some l0 =>
    rw [e0] at h1'
    obtain ⟨a, q1, q2, q3, q4, o0, q5, q6⟩ := A1.slots.own i _ (dctAt_eq e0)
    refine ⟨.ref a, q1, w1, A1, (ResS.bind (Rel := RelP) h1').imp ?_⟩
    rintro y H2 ⟨kd, w2, A2, N2, R2, h2⟩
    have h2' : ResS fr W D (match dctAt w2.ρ i, keyOf kd with
      | some l, some _ => if l.length < lim then .ok .nx ⟨w2.ρ.set i (some (.own (.dct (putD l kd dv)))), w2.S⟩ else .no
      | _, _ => .no) := h2
    cases e1 : dctAt w2.ρ i with
    | none => rw [e1] at h2'; exact h2'.elim
    | some l =>
      cases e2 : keyOf kd with
      | none => rw [e1, e2] at h2'; exact h2'.elim
      | some k =>
        rw [e1, e2] at h2'
        have ek := keyOf_d e2
        subst ek
        by_cases hl : l.length < lim
        · have h3' : ResS fr W D (if l.length < lim then .ok .nx ⟨w2.ρ.set i (some (.own (.dct (putD l (keyD k) dv)))), w2.S⟩ else .no) := h2'
          rw [if_pos hl] at h3'
          obtain ⟨b', g1, g2, g3, g4, o1, g5, g6⟩ := A2.slots.own i _ (dctAt_eq e1)
          cases g6 with | @dK kvs _ g6 =>
          rw [q1] at g1
          cases g1
          have ey := pk_key R2
          subst ey
          have R1' := N2.rep R1
          exact ⟨a, _, rfl, DPut.k g5 (by rw [repK_len g6]; exact lim_lt' hl), h3' σ _ (w2.put i (some (.own (.dct (putD l (keyD k) dv))))) rfl rfl (A2.mut (c' := .dct (putD l (keyD k) dv)) (dctAt_eq e1) q1 ⟨_, upd_same, .dK (repK_put k R1' g6)⟩)⟩
        · have h3' : ResS fr W D (if l.length < lim then .ok .nx ⟨w2.ρ.set i (some (.own (.dct (putD l (keyD k) dv)))), w2.S⟩ else .no) := h2'
          rw [if_neg hl] at h3'; exact h3'.elim
end
end DL
end

section
set_option Elab.async false
set_option linter.all false
set_option maxRecDepth 100000
set_option autoImplicit false
set_option maxHeartbeats 1000000
/-! DLA: dict(zip(x, y)), lists and tuples in any mix. -/
namespace PySem
open Sem (wp)
section
variable {prog : Program} {w : World} {A : Around} {E : Value → Shared → Prop} {s : Shared} {z TI TO T i1 i2 : Addr} {fp1 fp2 : List Addr} {n1 n2 i : Nat} {P1 P2 : Nat → Value → Prop} {St1 St2 : Nat → Heap → Prop} {f : Bool} {oT : Obj}
/-- a zip over any two, its tuple still out: one more -/
theorem zhD_item {Q : Value → Shared → Prop} (S : ZipSep2 z TI TO i1 i2 fp1 fp2) (D1 : Draws prog w A i1 fp1 n1 P1 St1) (D2 : Draws prog w A i2 fp2 n2 P2 St2)
    (hz : IsZipHeld s.heap z TI TO T f) (hT : s.heap.get? T = some oT) (hTI : IsTupOf2 s.heap TI (.ref i1) (.ref i2)) (st1 : St1 i s.heap) (st2 : St2 i s.heap) (l1 : i < n1) (l2 : i < n2)
    (hQ : ∀ x1 x2 h' tk, P1 i x1 → P2 i x2 → IsZipHeld h' z TI TO T true → St1 (i + 1) h' → St2 (i + 1) h' → IsTupOf2 h' s.heap.objs.size x1 x2 → h'.objs.size = s.heap.objs.size + 1 →
      (∀ c o, c ≠ z → c ≠ i1 → c ≠ i2 → s.heap.get? c = some o → h'.get? c = some o) → Q (.ref s.heap.objs.size) { s with heap := h', toks := tk }) :
    wpAny (model prog w) A (Builtin.«zip.__next__» ⟨[.ref z], []⟩) (fun fin s' => ∃ v, fin = .done (.ret v) ∧ Q v s') E s := by
  obtain ⟨hp, gg, dd, tk0, os0⟩ := s
  show wpAny _ _ (field (.ref z) 2 >>= _) _ _ _
  refine wpAny_bind (wpAny_field hz rfl (x := .bool false) rfl ?_)
  show wpAny _ _ (field (.ref z) 3 >>= _) _ _ _
  refine wpAny_bind (wpAny_field hz rfl (x := .ref TI) rfl (wpAny_bind (wpAny_seqItems hTI rfl ?_)))
  show wpAny _ _ (Builtin.SmallTypes.ownedTupleIsFree (.ref z) >>= _) _ _ _
  refine wpAny_bind (wpAny_tupleHeld_zip hz hT fun g0 z0 b0 => ?_)
  replace b0 : Heap.SameBut z hp g0 := b0
  simp only [Bool.false_eq_true, if_false]
  refine wpAny_bind ?_
  rw [← Array.forIn_toList]
  simp only [List.forIn_cons, List.forIn_nil]
  refine wpAny_bind (wpAny_bind (wpAny_holding ?_))
  show wpAny _ _ (Builtin.SmallTypes.nextOf (.ref i1) >>= _) _ _ ⟨g0, gg, dd, tk0, os0⟩
  refine wpAny_bind (D1.item i _ _ _ l1 (D1.over st1 b0 S.zf1) fun x1 g1 t1 y1 q1 b1 => wpAny_pure (wpAny_pure ?_))
  replace b1 : Heap.SameBut i1 g0 g1 := b1
  refine wpAny_bind (wpAny_bind (wpAny_holding ?_))
  show wpAny _ _ (Builtin.SmallTypes.nextOf (.ref i2) >>= _) _ _ ⟨g1, gg, dd, t1, os0⟩
  refine wpAny_bind (D2.item i _ _ _ l2 (D2.over (D2.over st2 b0 S.zf2) b1 S.sep1_2) fun x2 g2 t2 y2 q2 b2 => wpAny_pure (wpAny_pure (wpAny_pure ?_)))
  replace b2 : Heap.SameBut i2 g1 g2 := b2
  show wpAny _ _ (newTuple [x1, x2] >>= _) _ _ ⟨g2, gg, dd, t2, os0⟩
  refine wpAny_bind (wpAny_newTuple (wpAny_pure ⟨_, rfl, ?_⟩))
  have sz : g2.objs.size = hp.objs.size := by rw [b2.1, b1.1, b0.1]
  have zz : IsZipHeld g2 z TI TO T true := b2.extBut _ _ S.zi2 (b1.extBut _ _ S.zi1 z0)
  have kk : ∀ c o, c ≠ z → c ≠ i1 → c ≠ i2 → hp.get? c = some o → g2.get? c = some o := fun c o e1 e2 e3 e => b2.extBut _ _ e3 (b1.extBut _ _ e2 (b0.extBut _ _ e1 e))
  have up : ∀ c o, g2.get? c = some o → (g2.push { cls := .type "tuple", data := .seq #[x1, x2] }).get? c = some o := fun c o e => Heap.get?_push_of_some _ e
  have pt : IsTupOf2 (g2.push { cls := .type "tuple", data := .seq #[x1, x2] }) g2.objs.size x1 x2 := Heap.get?_push_size _ rfl
  have s3 : (g2.push { cls := .type "tuple", data := .seq #[x1, x2] }).objs.size = g2.objs.size + 1 := Heap.size_push ..
  show Q (.ref g2.objs.size) _
  rw [sz] at pt s3 ⊢
  exact hQ x1 x2 _ t2 y1 y2 (up _ _ zz) (D1.frame _ _ _ (D1.over q1 b2 S.sep2_1) fun b _ o e => up b o e) (D2.frame _ _ _ q2 fun b _ o e => up b o e) pt s3 fun c o e1 e2 e3 e => up c o (kk c o e1 e2 e3 e)
/-- .. none any more -/
theorem zhD_end {Q : Fin → Shared → Prop} (S : ZipSep2 z TI TO i1 i2 fp1 fp2) (D1 : Draws prog w A i1 fp1 n1 P1 St1) (D2 : Draws prog w A i2 fp2 n2 P2 St2)
    (hz : IsZipHeld s.heap z TI TO T f) (hT : s.heap.get? T = some oT) (hTI : IsTupOf2 s.heap TI (.ref i1) (.ref i2)) (st1 : St1 i s.heap) (st2 : St2 i s.heap) (l1 : i ≤ n1) (l2 : i ≤ n2) (he : i = n1 ∨ i = n2)
    (hE : ∀ h' tk e, (∀ c o, c ≠ z → c ≠ i1 → c ≠ i2 → s.heap.get? c = some o → h'.get? c = some o) → (∃ o, h'.get? e = some o ∧ o.cls = .type "StopIteration") → E (.ref e) { s with heap := h', toks := tk }) :
    wpAny (model prog w) A (Builtin.«zip.__next__» ⟨[.ref z], []⟩) Q E s := by
  obtain ⟨hp, gg, dd, tk0, os0⟩ := s
  show wpAny _ _ (field (.ref z) 2 >>= _) _ _ _
  refine wpAny_bind (wpAny_field hz rfl (x := .bool false) rfl ?_)
  show wpAny _ _ (field (.ref z) 3 >>= _) _ _ _
  refine wpAny_bind (wpAny_field hz rfl (x := .ref TI) rfl (wpAny_bind (wpAny_seqItems hTI rfl ?_)))
  show wpAny _ _ (Builtin.SmallTypes.ownedTupleIsFree (.ref z) >>= _) _ _ _
  refine wpAny_bind (wpAny_tupleHeld_zip hz hT fun g0 z0 b0 => ?_)
  replace b0 : Heap.SameBut z hp g0 := b0
  simp only [Bool.false_eq_true, if_false]
  refine wpAny_bind ?_
  rw [← Array.forIn_toList]
  simp only [List.forIn_cons, List.forIn_nil]
  refine wpAny_bind (wpAny_bind (wpAny_holding ?_))
  show wpAny _ _ (Builtin.SmallTypes.nextOf (.ref i1) >>= _) _ _ ⟨g0, gg, dd, tk0, os0⟩
  by_cases c1 : i = n1
  · subst c1
    exact wpAny_bind (D1.done _ _ _ (D1.over st1 b0 S.zf1) fun h' e b1 q => hE h' tk0 e (fun c o e1 e2 _ x => b1 _ _ e2 (b0.extBut _ _ e1 x)) q)
  · have c2 : i = n2 := by rcases he with h | h; exact absurd h c1; exact h
    subst c2
    refine wpAny_bind (D1.item i _ _ _ (by omega) (D1.over st1 b0 S.zf1) fun x1 g1 t1 y1 q1 b1 => wpAny_pure (wpAny_pure ?_))
    replace b1 : Heap.SameBut i1 g0 g1 := b1
    refine wpAny_bind (wpAny_bind (wpAny_holding ?_))
    show wpAny _ _ (Builtin.SmallTypes.nextOf (.ref i2) >>= _) _ _ ⟨g1, gg, dd, t1, os0⟩
    exact wpAny_bind (D2.done _ _ _ (D2.over (D2.over st2 b0 S.zf2) b1 S.sep1_2) fun h' e b2 q => hE h' t1 e (fun c o e1 e2 e3 x => b2 _ _ e3 (b1.extBut _ _ e2 (b0.extBut _ _ e1 x))) q)
theorem zhD_next {Q : Option Value → Shared → Prop} (S : ZipSep2 z TI TO i1 i2 fp1 fp2) (D1 : Draws prog w A.in1 i1 fp1 n1 P1 St1) (D2 : Draws prog w A.in1 i2 fp2 n2 P2 St2)
    (hz : IsZipHeld s.heap z TI TO T f) (hT : s.heap.get? T = some oT) (hTI : IsTupOf2 s.heap TI (.ref i1) (.ref i2)) (st1 : St1 i s.heap) (st2 : St2 i s.heap) (l1 : i < n1) (l2 : i < n2)
    (hQ : ∀ x1 x2 h' tk, P1 i x1 → P2 i x2 → IsZipHeld h' z TI TO T true → St1 (i + 1) h' → St2 (i + 1) h' → IsTupOf2 h' s.heap.objs.size x1 x2 → h'.objs.size = s.heap.objs.size + 1 →
      (∀ c o, c ≠ z → c ≠ i1 → c ≠ i2 → s.heap.get? c = some o → h'.get? c = some o) → Q (some (.ref s.heap.objs.size)) { s with heap := h', toks := tk }) :
    wpAny (model prog w) A (pyNext (.ref z)) Q E s := by
  have ty : s.TypeIs (.ref z) "zip" := ⟨_, hz, rfl⟩
  unfold pyNext
  exact wpAny_bind (wpAny_attempt (wpAny_callSpecial?_slot (name := Str.ofString "__next__") ty F.slot_zip_next (wpAny_call_entry F.slot_zip_next ty F.entry_zip_next
    (zhD_item S D1 D2 hz hT hTI st1 st2 l1 l2 fun x1 x2 h' tk a b c d e p q r => wpAny_pure (hQ x1 x2 h' tk a b c d e p q r)) (F.args_zip_next_1 _))))
theorem zhD_stop {Q : Option Value → Shared → Prop} (S : ZipSep2 z TI TO i1 i2 fp1 fp2) (D1 : Draws prog w A.in1 i1 fp1 n1 P1 St1) (D2 : Draws prog w A.in1 i2 fp2 n2 P2 St2)
    (hz : IsZipHeld s.heap z TI TO T f) (hT : s.heap.get? T = some oT) (hTI : IsTupOf2 s.heap TI (.ref i1) (.ref i2)) (st1 : St1 i s.heap) (st2 : St2 i s.heap) (l1 : i ≤ n1) (l2 : i ≤ n2) (he : i = n1 ∨ i = n2)
    (hQ : ∀ h' tk, (∀ c o, c ≠ z → c ≠ i1 → c ≠ i2 → s.heap.get? c = some o → h'.get? c = some o) → Q none { s with heap := h', toks := tk }) : wpAny (model prog w) A (pyNext (.ref z)) Q E s := by
  have ty : s.TypeIs (.ref z) "zip" := ⟨_, hz, rfl⟩
  unfold pyNext
  refine wpAny_bind (wpAny_attempt (wpAny_callSpecial?_slot (name := Str.ofString "__next__") ty F.slot_zip_next (wpAny_call_entry F.slot_zip_next ty F.entry_zip_next
    (zhD_end S D1 D2 hz hT hTI st1 st2 l1 l2 he fun h' tk e k q => ?_) (F.args_zip_next_1 _))))
  obtain ⟨o, ho, hc⟩ := q
  exact wpAny_bind (wpAny_isInstance (T := "StopIteration") (b := true) ⟨o, ho, hc⟩ isSubtype_stop (wpAny_pure (hQ _ _ k)))
end
end PySem
namespace DL
open PySem PySem.Spec PyProof.Rows L2
section
variable {prog : Program} {w : World}
theorem IsSq.kp {k : Bool} {h h' : Heap} {a : Addr} {its : Array Value} (q : IsSq k h a its) (f : ∀ o, h.get? a = some o → h'.get? a = some o) : IsSq k h' a its := by
  cases k with
  | true => exact (show h.IsList a its from q).at f
  | false => exact (show h.IsTuple a its from q).at f
theorem IsSq.obj {k : Bool} {h : Heap} {a : Addr} {its : Array Value} (q : IsSq k h a its) : ∃ o, h.get? a = some o := by
  cases k with
  | true => obtain ⟨o, ho, _⟩ := q; exact ⟨o, ho⟩
  | false => obtain ⟨o, ho, _⟩ := q; exact ⟨o, ho⟩
/-- zip of two sequences as the argument of dict() -/
theorem pairArgZ {k j : Bool} (z TI TO i1 i2 a b : Addr) (S : ZipSep2 z TI TO i1 i2 [i1, a] [i2, b]) (n1 : a ≠ i1) (n2 : b ≠ i2) (xs ys : Array Value) :
    PairArg prog w "zip" z [z, TI, TO, i1, i2, a, b] [z, TO, i1, i2] (min xs.size ys.size) (fun i u v => xs[i]? = some u ∧ ys[i]? = some v)
      (fun h => IsZip h z TI TO .none ∧ IsTupOf2 h TI (.ref i1) (.ref i2) ∧ (∃ a b, IsTupOf2 h TO a b) ∧ IsIt k h i1 a 0 ∧ IsIt j h i2 b 0 ∧ IsSq k h a xs ∧ IsSq j h b ys) where
  type := fun s ok => ⟨_, ok.1, rfl⟩
  notDict := by decide
  keep := fun h h' ⟨q1, q2, ⟨c, d, q3⟩, q4, q5, q6, q7⟩ f => ⟨f _ _ q1, f _ _ q2, ⟨c, d, f _ _ q3⟩, q4.kp fun o e => f _ o e, q5.kp fun o e => f _ o e, q6.kp fun o e => f _ o e, q7.kp fun o e => f _ o e⟩
  there := fun h ⟨q1, q2, ⟨c, d, q3⟩, q4, q5, q6, q7⟩ x hx => by
    simp only [List.mem_cons, List.not_mem_nil, or_false] at hx
    obtain ⟨o4, e4, _⟩ := q4.obj
    obtain ⟨o5, e5, _⟩ := q5.obj
    obtain ⟨o6, e6⟩ := q6.obj
    obtain ⟨o7, e7⟩ := q7.obj
    rcases hx with e | e | e | e | e | e | e <;> rw [e]
    · exact ⟨_, q1⟩
    · exact ⟨_, q2⟩
    · exact ⟨_, q3⟩
    · exact ⟨_, e4⟩
    · exact ⟨_, e5⟩
    · exact ⟨_, e6⟩
    · exact ⟨_, e7⟩
  sub := fun x hx => by
    simp only [List.mem_cons, List.not_mem_nil, or_false] at hx ⊢
    rcases hx with e | e | e | e <;> simp [e]
  noKeys := fun A s Q E hA ok h => getAttrOr_miss_zip ok.1 rfl rfl rfl zip_no_keys (by decide +kernel) hA h
  iter := fun A s d Q E hA ok hd hdf h => by
    obtain ⟨q1, q2, ⟨c, e, q3⟩, q4, q5, q6, q7⟩ := ok
    simp only [List.mem_cons, List.not_mem_nil, or_false, not_or] at hdf
    obtain ⟨dz, dTI, dTO, di1, di2, da, db⟩ := hdf
    have hh : A.in1.handled = none := hA
    have D1 := drawsA (prog := prog) (w := w) (k := k) hh i1 a n1 xs
    have D2 := drawsA (prog := prog) (w := w) (k := j) hh i2 b n2 ys
    refine wpAny_pyIter_zip q1 (h z [z, TO, i1, i2] (fun i h => IsTupOf2 h TI (.ref i1) (.ref i2) ∧ (IsIt k h i1 a i ∧ IsSq k h a xs) ∧ (IsIt j h i2 b i ∧ IsSq j h b ys) ∧
      ((IsZip h z TI TO .none ∧ ∃ a b, IsTupOf2 h TO a b) ∨ ∃ T f oT, IsZipHeld h z TI TO T f ∧ h.get? T = some oT ∧ T ≠ z ∧ T ≠ i1 ∧ T ≠ i2 ∧ T ≠ d)) s.heap s.toks ?_
      ⟨q2, ⟨q4, q6⟩, ⟨q5, q7⟩, .inl ⟨q1, c, e, q3⟩⟩ (fun _ _ x => x) fun x hx => .inl hx)
    refine ⟨fun hm => ?_, fun i h₁ h₂ st f => ?_, fun i s₁ Q₁ E₁ hi st hds hQ => ?_, fun s₁ Q₁ E₁ st hQ => ?_⟩
    · simp only [List.mem_cons, List.not_mem_nil, or_false] at hm
      rcases hm with x | x | x | x
      · exact dz x
      · exact dTO x
      · exact di1 x
      · exact di2 x
    · obtain ⟨t1, ⟨t2, t3⟩, ⟨t4, t5⟩, t6⟩ := st
      refine ⟨f _ _ (Ne.symm dTI) t1, ⟨t2.kp fun o x => f _ o (Ne.symm di1) x, t3.kp fun o x => f _ o (Ne.symm da) x⟩, ⟨t4.kp fun o x => f _ o (Ne.symm di2) x, t5.kp fun o x => f _ o (Ne.symm db) x⟩, ?_⟩
      rcases t6 with ⟨u1, c, e, u2⟩ | ⟨T, fl, oT, u1, u2, r1, r2, r3, r4⟩
      · exact .inl ⟨f _ _ (Ne.symm dz) u1, c, e, f _ _ (Ne.symm dTO) u2⟩
      · exact .inr ⟨T, fl, oT, f _ _ (Ne.symm dz) u1, f _ _ r4 u2, r1, r2, r3, r4⟩
    · obtain ⟨t1, t2, t3, t6⟩ := st
      have l1 : i < xs.size := Nat.lt_of_lt_of_le hi (Nat.min_le_left ..)
      have l2 : i < ys.size := Nat.lt_of_lt_of_le hi (Nat.min_le_right ..)
      have lt : ∀ {c o}, s₁.heap.get? c = some o → s₁.heap.objs.size ≠ c := fun x => Nat.ne_of_gt (Heap.lt_size x)
      have m1 : s₁.heap.objs.size ≠ i1 := by obtain ⟨o, x, _⟩ := t2.1.obj; exact lt x
      have m2 : s₁.heap.objs.size ≠ i2 := by obtain ⟨o, x, _⟩ := t3.1.obj; exact lt x
      rcases t6 with ⟨u1, c, e, u2⟩ | ⟨T, fl, oT, u1, u2, r1, r2, r3, r4⟩
      · refine wpAny_pyNext_zipD2_item S D1 D2 u1 t1 u2 t2 t3 l1 l2 fun x1 x2 h' tk y1 y2 a1 a2 a3 a4 a5 a6 g => ?_
        exact hQ s₁.heap.objs.size x1 x2 h' tk ⟨y1, y2⟩ (.inl ⟨_, a5, rfl, _, rfl⟩) ⟨g _ _ S.TIz S.TITO S.TIi1 S.TIi2 t1, a3, a4, .inr ⟨s₁.heap.objs.size, false, _, a1, a5, lt u1, m1, m2, Nat.ne_of_gt hds⟩⟩
          fun c o hc x => g c o (fun q => hc (by simp [q])) (fun q => hc (by simp [q])) (fun q => hc (by simp [q])) (fun q => hc (by simp [q])) x
      · refine zhD_next S D1 D2 u1 u2 t1 t2 t3 l1 l2 fun x1 x2 h' tk y1 y2 a1 a3 a4 a5 a6 g => ?_
        exact hQ s₁.heap.objs.size x1 x2 h' tk ⟨y1, y2⟩ (.inl ⟨_, a5, rfl, _, rfl⟩) ⟨g _ _ S.TIz S.TIi1 S.TIi2 t1, a3, a4, .inr ⟨T, true, oT, a1, g _ _ r1 r2 r3 u2, r1, r2, r3, r4⟩⟩
          fun c o hc x => g c o (fun q => hc (by simp [q])) (fun q => hc (by simp [q])) (fun q => hc (by simp [q])) x
    · obtain ⟨t1, t2, t3, t6⟩ := st
      have l1 : min xs.size ys.size ≤ xs.size := Nat.min_le_left ..
      have l2 : min xs.size ys.size ≤ ys.size := Nat.min_le_right ..
      have le : min xs.size ys.size = xs.size ∨ min xs.size ys.size = ys.size := by omega
      rcases t6 with ⟨u1, c, e, u2⟩ | ⟨T, fl, oT, u1, u2, r1, r2, r3, r4⟩
      · exact wpAny_pyNext_zipD2_end S D1 D2 u1 t1 u2 t2 t3 l1 l2 le fun h' tk g => hQ h' tk fun c o hc x => g c o (fun q => hc (by simp [q])) (fun q => hc (by simp [q])) (fun q => hc (by simp [q])) (fun q => hc (by simp [q])) x
      · exact zhD_stop S D1 D2 u1 u2 t1 t2 t3 l1 l2 le fun h' tk g => hQ h' tk fun c o hc x => g c o (fun q => hc (by simp [q])) (fun q => hc (by simp [q])) (fun q => hc (by simp [q])) x
end
end DL
end

section
set_option Elab.async false
set_option linter.all false
set_option maxRecDepth 100000
set_option autoImplicit false
set_option maxHeartbeats 1000000
/-! DLB: dict(zip(x, y)) as an expression. -/
namespace DL
open PySem PySem.Spec PyProof.Rows L2
/-- the pairs of two sequences, as a dict's -/
inductive ZK : List V → List V → List (Key × V) → Prop
  | l {ys : List V} : ZK [] ys []
  | r {xs : List V} : ZK xs [] []
  | c {k : Key} {v : V} {xs ys : List V} {kvs : List (Key × V)} : ZK xs ys kvs → ZK (kV k :: xs) (v :: ys) ((k, v) :: kvs)
theorem zk_vals {P : Program} {w : World} : ∀ {xs ys : List V} {kvs : List (Key × V)} {us ws : List Value}, ZK xs ys kvs → Vals xs us → Vals ys ws →
    ∃ rs : List (Key × Value), KV kvs rs ∧ rs.length = min us.length ws.length ∧ ∀ (i : Nat) (key v : Value), us[i]? = some key → ws[i]? = some v → ∃ k, rs[i]? = some (k, v) ∧ (mixKind P w).is k key = true
  | _, _, _, _, _, .l, .nil, _ => ⟨[], .nil, by simp, by simp⟩
  | _, _, _, _, _, .r, _, .nil => ⟨[], .nil, by simp, by simp⟩
  | _, _, _, _, _, .c (k := k) z, .cons r1 t1, .cons (b := y) r2 t2 => by
    obtain ⟨rs, a, b, c⟩ := zk_vals (P := P) (w := w) z t1 t2
    refine ⟨(k, y) :: rs, .cons ⟨rfl, r2⟩ a, by simp [b], fun i key v h1 h2 => ?_⟩
    cases i with
    | zero =>
      simp at h1 h2
      subst h1 h2
      exact ⟨k, rfl, kV_is r1⟩
    | succ i =>
      obtain ⟨k', e1, e2⟩ := c i key v (by simpa using h1) (by simpa using h2)
      exact ⟨k', by simpa using e1, e2⟩
def tDz (K : PySem.W.Frag) (ta : TA) : TE := fun σ H Q => ta σ H fun vs H1 => ∃ (k j : Bool) (a b : Addr) (xs ys : List V) (kvs : List (Key × V)), vs = [.ref a, .ref b] ∧ SqA k K H1 a xs ∧ SqA j K H1 b ys ∧ ZK xs ys kvs ∧ min xs.length ys.length ≤ lim ∧
  ∀ p, H1 p = none → Q (.ref p) (upd H1 p (.dK (mergeK [] kvs)))
theorem pe_dz {X : Cx} {e e2 : Expr} {ta : TA} {p p2 pos pos2 : Pos} (hc : X.calm = true) (hgd : Gl X "dict") (hmd : X.mg "dict" = none) (hg : Gl X "zip") (hm : X.mg "zip" = none) (ha : PA X [e, e2] ta)
    (hs : starEach [e, e2] X.env = (false, eval e X.env) :: starEach [e2] X.env) (hpl : (backTo pos2 (starEach [e2] X.env)).any (·.1) = false) :
    PE X (.Call (.Name "dict" p) [.Call (.Name "zip" p2) [e, e2] [] pos2] [] pos) (tDz X.K ta) := by
  refine ⟨fun pins s σ H Q I h => ?_⟩
  refine Call_ (ld_blt I hgd hmd PyProof.Rows.boot_dict (PyProof.Rows.callWith_type1 ?_ rfl rfl))
  show wpAny _ _ (spliced ((false, eval (.Call (.Name "zip" p2) [e, e2] [] pos2) X.env) :: backTo pos (starEach [] X.env))) _ _ s
  refine Calls.spliced_cons (Call_ (ld_blt I hg hm PyProof.Rows.boot_zip (PyProof.Rows.callWith_type1 (thn (ha.run pos2 pins s σ H _ I h) fun us s1 ⟨vs, H1, I1, r1, q1⟩ => ?_) hs hpl)))
  obtain ⟨k, j, a, b, xs, ys, kvs, ex, hqx, hqy, hz, hle, q⟩ := q1
  subst ex
  cases r1 with
  | cons r rr =>
    cases rr with
    | cons r' rr =>
      cases rr
      cases r
      cases r'
      obtain ⟨its, rv, p1, la⟩ := seqA I1 hqx
      obtain ⟨its2, rv2, p2', lb⟩ := seqA I1 hqy
      refine zip_begins2 (beginsA (k := k) a its.toArray) (beginsA (k := j) b its2.toArray) p1 p2' fun h' z1 z2 z3 z4 z5 hsz hk => ?_
      refine Calls.spliced_nil ?_
      have I2 : Inv X pins σ H1 { s1 with heap := h' } := I1.kept (t' := s1.toks) hk
      have na : a ≠ s1.heap.objs.size := Nat.ne_of_lt la
      have nb : b ≠ s1.heap.objs.size + 1 := Nat.ne_of_lt (Nat.lt_succ_of_lt lb)
      have S : ZipSep2 (s1.heap.objs.size + 4) (s1.heap.objs.size + 2) (s1.heap.objs.size + 3) s1.heap.objs.size (s1.heap.objs.size + 1) [s1.heap.objs.size, a] [s1.heap.objs.size + 1, b] := zip_sep2 (by simpa using la) (by simpa using lb)
      obtain ⟨rs, k1, k2, k3⟩ := zk_vals (P := X.prog) (w := X.w) hz rv rv2
      have hl1 := rv.length
      have hl2 := rv2.length
      refine call_dict_pairs (knd := mixKind X.prog X.w) (kvs := rs) (pairArgZ (k := k) (j := j) _ _ _ _ _ a b S na nb its.toArray its2.toArray) (I1.ok.hd hc) ⟨z1, z2, ⟨_, _, z3⟩, itO_is z4, itO_is z5, (show IsSq k h' a its.toArray from p1.kp fun o x => hk _ o x), (show IsSq j h' b its2.toArray from p2'.kp fun o x => hk _ o x)⟩
        ⟨by simpa using k2, fun i key v ⟨e1, e2⟩ => k3 i key v (by simpa using e1) (by simpa using e2)⟩ (by simp only [List.size_toArray]; rw [← hl1, ← hl2]; exact lim_le hle) fun h'' tk dd g => ?_
      have fresh5 : ∀ c, c ∈ [s1.heap.objs.size + 4, s1.heap.objs.size + 3, s1.heap.objs.size, s1.heap.objs.size + 1] → FpOk X pins H1 c := fun c hcm => by
        have hle' : s1.heap.objs.size ≤ c := by
          simp only [List.mem_cons, List.not_mem_nil, or_false] at hcm
          rcases hcm with x | x | x | x
          · rw [x]; exact Nat.le_add_right _ _
          · rw [x]; exact Nat.le_add_right _ _
          · rw [x]; exact Nat.le_refl _
          · rw [x]; exact Nat.le_add_right _ _
        have q := I1.fpOk hle' (I1.hok.fresh hle')
        exact q
      have hn : H1 h'.objs.size = none := I2.hok.fresh (Nat.le_refl _)
      have lk : kvs.length = rs.length := Paired.length k1
      have big : (h'.objs.size == sysModules) = false := by
        have := I2.big
        have h2 : h'.objs.size ≠ sysModules := Nat.ne_of_gt this
        simpa using h2
      have new : ObjOk X.prog X.w (upd H1 h'.objs.size (.dK (mergeK [] kvs))) h'' h'.objs.size (.dK (mergeK [] kvs)) :=
        dk_new (by
          have := length_mergeK kvs []
          have e3 : rs.length ≤ lim := by rw [k2, ← hl1, ← hl2]; exact hle
          exact lim_le (by simp at this; omega)) big (KV.merge k1 .nil) dd
      have I3 : Inv X pins σ (upd H1 h'.objs.size (.dK (mergeK [] kvs))) { s1 with heap := h'', toks := tk } :=
        I2.turnedNew (t' := tk) (ch := [s1.heap.objs.size + 4, s1.heap.objs.size + 3, s1.heap.objs.size, s1.heap.objs.size + 1]) (fun c o hb x => g c o hb x) fresh5 (Nat.le_refl _) new
      exact ⟨.ref h'.objs.size, _, I3, rfl, q _ hn⟩
/-! ### its meaning -/
def dzip : List D → List D → Option (List (D × D))
  | a :: r, b :: q => (match keyOf a, dzip r q with
    | some _, some l => some ((a, b) :: l)
    | _, _ => none)
  | _, _ => some []
def mergeD (l : List (D × D)) : List (D × D) := l.foldl (fun acc p => putD acc p.1 p.2) []
def mDz (m : M (List D)) : M R := fun Φ s => (m Φ s).bind fun ds s1 => match ds with
  | [d, e] => (match seqOf d, seqOf e with
    | some l, some q => (match dzip l q with
      | some z => if min l.length q.length ≤ lim then .ok (.own (.dct (mergeD z))) s1 else .no
      | none => .no)
    | _, _ => .no)
  | _ => .no
theorem repK_merge {F : Hp} {B : List Addr} : ∀ {more : List (Key × V)} {l : List (D × D)} {kvs : List (Key × V)} {acc : List (D × D)}, RepK F B more l → RepK F B kvs acc → RepK F B (mergeK kvs more) (l.foldl (fun acc p => putD acc p.1 p.2) acc)
  | _, _, _, _, .nil, r => r
  | _, _, kvs, acc, .cons (k := k) (v := v) (d := d) (vs := vs) (ds := ds) h t, r => repK_merge (more := vs) (l := ds) (kvs := putK kvs k v) (acc := putD acc (keyD k) d) t (repK_put k h r)
theorem zk_of {F : Hp} {B : List Addr} : ∀ {xs ys : List V} {l q : List D} {z : List (D × D)}, Reps F B xs l → Reps F B ys q → dzip l q = some z → ∃ kvs, ZK xs ys kvs ∧ RepK F B kvs z
  | _, _, [], _, _, .nil, _, e => by cases e; exact ⟨[], .l, .nil⟩
  | _, _, _ :: _, [], _, _, .nil, e => by cases e; exact ⟨[], .r, .nil⟩
  | _, _, a :: r, b :: q, z, .cons h1 t1, .cons h2 t2, e => by
    have e' : (match keyOf a, dzip r q with
      | some _, some l => some ((a, b) :: l)
      | _, _ => none) = some z := e
    cases ek : keyOf a with
    | none => rw [ek] at e'; cases e'
    | some k =>
      cases ez : dzip r q with
      | none => rw [ek, ez] at e'; cases e'
      | some l =>
        rw [ek, ez] at e'
        cases e'
        have ea := keyOf_d ek
        subst ea
        obtain ⟨kvs, g1, g2⟩ := zk_of t1 t2 ez
        have ev := pk_key (H := F) (Pk.rep h1)
        subst ev
        exact ⟨_, .c g1, .cons h2 g2⟩
section
variable {C : Cs} {X : Cx} {fr : Fr} {W : WX} {Φ : PhiT} {pos p p2 pos2 : Pos} {a b : Expr} {ms : M (List D)}
theorem pe_dzG (c : CtxOk C X fr W Φ) (hgd : C.sc.names.lookup ("dict" : Str) = some .globalImplicit) (hg : C.sc.names.lookup ("zip" : Str) = some .globalImplicit) (ha : PA X [a, b] (LA fr W Φ ms)) (hs : starEach [a, b] X.env = (false, eval a X.env) :: starEach [b] X.env) (hpl : (backTo pos2 (starEach [b] X.env)).any (·.1) = false) :
    PE X (.Call (.Name "dict" p) [.Call (.Name "zip" p2) [a, b] [] pos2] [] pos) (LE fr W Φ (mDz ms)) := by
  refine PE.imp (pe_dz c.calm (show X.env.scope.names.lookup ("dict" : Str) = _ by rw [c.sc]; exact hgd) (c.free _ (by decide)) (show X.env.scope.names.lookup ("zip" : Str) = _ by rw [c.sc]; exact hg) (c.free _ (by decide)) ha hs hpl) fun σ H Q ⟨w, A, r⟩ => ⟨w, A, (ResG.bind (Rel' := RelA) antiR r).imp ?_⟩
  rintro vs H1 ⟨ds, w1, A1, N1, R1, h1⟩
  cases R1 with
  | nil => exact h1.elim
  | cons q1 q2 =>
    rename_i v d vs ds
    cases q2 with
    | nil => exact h1.elim
    | cons q2 q3 =>
      rename_i v2 d2 vs2 ds2
      cases q3 with
      | cons _ _ => exact h1.elim
      | nil =>
        have h2 : ResG fr W σ H1 w1 (RelR σ) Q (match seqOf d, seqOf d2 with
          | some l, some q => (match dzip l q with
            | some z => if min l.length q.length ≤ lim then .ok (.own (.dct (mergeD z))) ⟨w1.ρ, w1.S⟩ else .no
            | none => .no)
          | _, _ => .no) := h1
        cases e : seqOf d with
        | none => rw [e] at h2; exact h2.elim
        | some l =>
          cases e2 : seqOf d2 with
          | none => rw [e, e2] at h2; exact h2.elim
          | some m =>
            rw [e, e2] at h2
            have h3 : ResG fr W σ H1 w1 (RelR σ) Q (match dzip l m with
              | some z => if min l.length m.length ≤ lim then .ok (.own (.dct (mergeD z))) ⟨w1.ρ, w1.S⟩ else .no
              | none => .no) := h2
            cases ez : dzip l m with
            | none => rw [ez] at h3; exact h3.elim
            | some z =>
              rw [ez] at h3
              have h4 : ResG fr W σ H1 w1 (RelR σ) Q (if min l.length m.length ≤ lim then .ok (.own (.dct (mergeD z))) ⟨w1.ρ, w1.S⟩ else .no) := h3
              by_cases hl : min l.length m.length ≤ lim
              · rw [if_pos hl] at h4
                obtain ⟨k, x, xs, rfl, hx, rx⟩ := repSeq q1 e
                obtain ⟨j, y, ys, rfl, hy, ry⟩ := repSeq q2 e2
                obtain ⟨kvs, g1, g2⟩ := zk_of rx ry ez
                refine ⟨k, j, x, y, xs, ys, kvs, rfl, sqA_of (A1.good.sub _ _ hx), sqA_of (A1.good.sub _ _ hy), g1, by rw [rx.length, ry.length]; exact hl, fun q hq => ?_⟩
                exact h4 (.ref q) _ w1 rfl rfl (A1.push hq) (Nx.push hq) ⟨q, rfl, hq, A1.newF hq, A1.newB hq, A1.newO hq, _, upd_same, .dK (repK_merge g2 .nil)⟩
              · rw [if_neg hl] at h4; exact h4.elim
end
end DL
end

section
set_option Elab.async false
set_option linter.all false
set_option maxRecDepth 100000
set_option autoImplicit false
set_option maxHeartbeats 4000000
/-! DLC: sorted(set(x)), x a list of whole numbers. -/
namespace L2
open PySem PySem.Spec PyProof.Rows
abbrev noMem (w : World) : Obj := { cls := .type "set", dict := none, data := .set #[] 0 (.fresh 0 0 (!w.params.followText "set-order")) }
section
variable {P : Program} {w : World} {A : Around} {E : Value → Shared → Prop} {s : Shared}
theorem set_ofL {l : Addr} {items : Array Value} (ns : List Int) {Q : Value → Shared → Prop} (nohd : A.handled = none) (isl : s.heap.IsList l items) (gInts : IntsAre items.toList ns) (few : ns.length + 1 < scanBound)
    (fin : ∀ (g : Heap) (tk c : Nat), SetR w g s.heap.objs.size (fun j => decide (j ∈ ns)) c → c ≤ ns.length → (∀ b o, s.heap.get? b = some o → g.get? b = some o) → Q (.ref s.heap.objs.size) { s with heap := g, toks := tk }) :
    wpAny (model P w) A (call (.type "set") [.ref l]) Q E s := by
  have lenI : items.size = ns.length := by
    have z := IntsAre.length gInts
    rwa [Array.length_toList] at z
  obtain ⟨cM, tM, mro⟩ := F.called_set.mro
  have mk := F.called_set.made
  have sb := F.called_set.sub
  refine wpAny_call (codeAny_of_tree ?_)
  show wpAny _ _ (callAny (.type "set") _) _ _ _
  refine wpAny_pure ⟨Code.quiet_builtin _ (by decide +kernel), codeAny_builtin F.entry_type_call ?_⟩
  rw [Around.under_plain (weight_type_call_type "set" [.ref l] []) rfl]
  have k1 := F.called_set.notType
  have k2 := F.called_set.canCreate
  have k3 := F.typeCall_set_1 (.ref l)
  repeat (any_goals (first | assumption | wp_step))
  refine codeAny_mono (code_set_led1 (.ref l) (E := E) (Q₁ := fun ob s' => ob = .ref s.heap.objs.size ∧ s' = { s with heap := s.heap.push (noMem w) }) ⟨rfl, rfl⟩) fun r sN hN => ?_
  cases r with
  | error e => exact hN
  | ok fl =>
    cases fl with
    | brk => exact hN.elim
    | cont => exact hN.elim
    | next => exact hN.elim
    | ret ob =>
      obtain ⟨rfl, rfl⟩ := hN
      have atS : (s.heap.push (noMem w)).get? s.heap.objs.size = some (noMem w) := Heap.get?_push_size _ rfl
      have tyS : Shared.TypeIs { s with heap := s.heap.push (noMem w) } (.ref s.heap.objs.size) "set" := ⟨_, atS, rfl⟩
      have i1 := F.called_set.init.lookup
      have i2 := F.called_set.init.bind (.ref s.heap.objs.size)
      repeat (any_goals (first | assumption | wp_step))
      refine codeAny_mono (codeAny_call_builtin (R := wants (fun r s' => r = .none ∧ ∃ g tk c, s' = { s with heap := g, toks := tk } ∧ SetR w g s.heap.objs.size (fun j => decide (j ∈ ns)) c ∧ c ≤ ns.length ∧ (∀ b o, s.heap.get? b = some o → g.get? b = some o)) E)
        F.called_set.init.plain F.entry_set_init (check_set_init_1 tyS ?_)) fun r2 sE hE => ?_
      · obtain ⟨⟨oc, od, ot, os⟩, atL, eC, nl, eD⟩ := isl
        replace eC : oc = .type "list" := eC
        replace eD : ot = .seq items nl := eD
        subst eC eD
        have atL' : (s.heap.push (noMem w)).get? l = some { cls := .type "list", dict := od, data := .seq items nl, slots := os } := Heap.get?_push_of_some _ atL
        have u1 := F.sub_list_set
        have u2 := F.sub_list_frozenset
        have u3 : (Value.type "list" == Value.type "dict") = false := by decide
        have isl1 : (s.heap.push (noMem w)).IsList l items := ⟨_, atL', rfl, nl, rfl⟩
        unfold Builtin.«set.__init__» noKeywords Builtin.Frozenset.updateFrom
        generalize hit : pyIter = IT
        wp_walk
        subst hit
        refine wpAny_pyIter_list isl1 (wpAny_bind (wpAny_runValue ?_))
        have ltL : l < s.heap.objs.size := Heap.lt_size atL
        have nohd3 : A.in1.in1.in1.handled = none := by simp [nohd]
        have sz1 : (s.heap.push (noMem w)).objs.size = s.heap.objs.size + 1 := Heap.size_push ..
        have apart : l ≠ (s.heap.push (noMem w)).objs.size := by rw [sz1]; exact Nat.ne_of_lt (Nat.lt_succ_of_lt ltL)
        have off : s.heap.objs.size ∉ [(s.heap.push (noMem w)).objs.size, l] := by
          rw [sz1]
          simp only [List.mem_cons, List.not_mem_nil, or_false, not_or]
          exact ⟨Nat.ne_of_lt (Nat.lt_succ_self _), Nat.ne_of_gt ltL⟩
        have vals : ∀ (i : Nat) (v : Value), items[i]? = some v → ∃ k t, ns[i]? = some k ∧ v = .int k t := fun i v hv => by
          have hi : i < ns.length := lenI ▸ (Array.getElem?_eq_some_iff.mp hv).1
          obtain ⟨t, e⟩ := PyProof.Rows.IntsAre.int_at gInts i v (by rw [Array.getElem?_toList]; exact hv)
          refine ⟨ns[i], t, List.getElem?_eq_getElem hi, ?_⟩
          rw [e, List.getD_eq_getElem?_getD, List.getElem?_eq_getElem hi]
          rfl
        have here : ((s.heap.push (noMem w)).push { cls := .type "list_iterator", data := .fields #[.ref l, .int 0 0] }).get? s.heap.objs.size = some (noMem w) := Heap.get?_push_of_some _ atS
        refine set_update_ints ((Walks.list nohd3 _ l apart items).toS) s.heap.objs.size off ns lenI few vals (items.size - 0) 0 _ (by omega) (Nat.zero_le _) ⟨⟨_, Heap.get?_push_size _ rfl, rfl, rfl⟩, isl1.push _⟩ ⟨0, Nat.le_refl 0, setR_new_at here⟩ ?_
        intro sF cF mv lc R
        obtain ⟨gF, yF, dF, tF, oF⟩ := sF
        have e1 : yF = s.gens := mv.gens
        have e2 : dF = s.drawn := mv.drawn
        have e3 : oF = s.os := mv.os
        subst e1 e2 e3
        show wpAny _ _ _ _ _ _
        refine wpAny_pure ?_
        show wpAny _ _ (ret Value.none) _ _ _
        rw [lenI] at lc
        refine wpAny_pure ⟨rfl, gF, tF, cF, rfl, R, lc, fun b o e => ?_⟩
        have b0 : b < s.heap.objs.size := Heap.lt_size e
        refine mv.heap b o ?_ (Heap.get?_push_of_some _ (Heap.get?_push_of_some _ e))
        simp only [List.mem_cons, List.not_mem_nil, or_false, not_or]
        exact ⟨Nat.ne_of_lt b0, by rw [sz1]; exact Nat.ne_of_lt (Nat.lt_succ_of_lt b0)⟩
      · cases r2 with
        | error e => exact hE
        | ok fl2 =>
          cases fl2 with
          | brk => exact hE.elim
          | cont => exact hE.elim
          | next => exact hE.elim
          | ret r =>
            obtain ⟨rfl, g, tk, c, rfl, R, lc, kp⟩ := hE
            repeat (any_goals (first | assumption | wp_step))
            exact fin _ _ _ R lc kp
end
end L2
end

section
set_option Elab.async false
set_option linter.all false
set_option maxRecDepth 100000
set_option autoImplicit false
set_option maxHeartbeats 1000000
/-! DLD: sorted(set(x)); x or y of tuples and lists. -/
namespace DL
open PySem PySem.Spec PyProof.Rows L2
def insU (k : Int) : List Int → List Int
  | [] => [k]
  | a :: r => if k < a then k :: a :: r else if k = a then a :: r else a :: insU k r
def sortU (ns : List Int) : List Int := ns.foldr insU []
theorem insU_mem (k : Int) : ∀ (l : List Int) (x : Int), x ∈ insU k l ↔ x = k ∨ x ∈ l
  | [], x => by simp [insU]
  | a :: r, x => by
    unfold insU
    split
    · simp
    · split
      · rename_i h; subst h; simp
      · simp only [List.mem_cons, insU_mem k r x]
        constructor
        · rintro (h | h | h)
          · exact .inr (.inl h)
          · exact .inl h
          · exact .inr (.inr h)
        · rintro (h | h | h)
          · exact .inr (.inl h)
          · exact .inl h
          · exact .inr (.inr h)
theorem insU_pw (k : Int) : ∀ {l : List Int}, l.Pairwise (· < ·) → (insU k l).Pairwise (· < ·)
  | [], _ => by simp [insU]
  | a :: r, h => by
    obtain ⟨h1, h2⟩ := List.pairwise_cons.mp h
    unfold insU
    split
    · rename_i hk
      refine List.pairwise_cons.mpr ⟨fun y hy => ?_, h⟩
      rcases List.mem_cons.mp hy with e | e
      · subst e; exact hk
      · have := h1 y e; omega
    · split
      · exact h
      · rename_i hk hk2
        refine List.pairwise_cons.mpr ⟨fun y hy => ?_, insU_pw k h2⟩
        rcases (insU_mem k r y).mp hy with e | e
        · subst e; omega
        · exact h1 y e
theorem sortU_mem (ns : List Int) (x : Int) : x ∈ sortU ns ↔ x ∈ ns := by
  induction ns with
  | nil => simp [sortU]
  | cons a r ih =>
    show x ∈ insU a (sortU r) ↔ _
    rw [insU_mem, ih, List.mem_cons]
theorem sortU_pw (ns : List Int) : (sortU ns).Pairwise (· < ·) := by
  induction ns with
  | nil => simp [sortU]
  | cons a r ih => exact insU_pw a ih
theorem pw_unique : ∀ {l m : List Int}, l.Pairwise (· < ·) → m.Pairwise (· < ·) → (∀ x, x ∈ l ↔ x ∈ m) → l = m
  | [], [], _, _, _ => rfl
  | [], b :: q, _, _, h => by have := (h b).mpr (List.mem_cons_self ..); cases this
  | a :: r, [], _, _, h => by have := (h a).mp (List.mem_cons_self ..); cases this
  | a :: r, b :: q, h1, h2, h => by
    obtain ⟨a1, a2⟩ := List.pairwise_cons.mp h1
    obtain ⟨b1, b2⟩ := List.pairwise_cons.mp h2
    have e : a = b := by
      rcases List.mem_cons.mp ((h a).mp (List.mem_cons_self ..)) with z | z
      · exact z
      · rcases List.mem_cons.mp ((h b).mpr (List.mem_cons_self ..)) with y | y
        · exact y.symm
        · have := a1 b y; have := b1 a z; omega
    subst e
    refine congrArg _ (pw_unique a2 b2 fun x => ⟨fun hx => ?_, fun hx => ?_⟩)
    · rcases List.mem_cons.mp ((h x).mp (List.mem_cons_of_mem _ hx)) with z | z
      · subst z; have := a1 x hx; omega
      · exact z
    · rcases List.mem_cons.mp ((h x).mpr (List.mem_cons_of_mem _ hx)) with z | z
      · subst z; have := b1 x hx; omega
      · exact z
def rSetL (K : PySem.W.Frag) (w : World) : List V → Hp → VK → Prop := fun xs H Q => ∃ (l : Addr) (ns : List Int), xs = [.ref l] ∧ SqL K H l (ns.map V.int) ∧ ns.length < 60 ∧
  ∀ a c, H a = none → c ≤ ns.length → Q (.ref a) (upd H a (SetO w a (fun j => decide (j ∈ ns)) c))
theorem cr_setL {X : Cx} (hc : X.calm = true) : CallR X (.type "set") (rSetL X.K X.w) := by
  intro pins s σ H xs us Q I r h
  obtain ⟨l, ns, rfl, hl, hf, q⟩ := h
  rw [Vals.ref1 r]
  obtain ⟨its, rv, pl, hz⟩ := I.list hl
  have hn : H s.heap.objs.size = none := I.hok.fresh (Nat.le_refl _)
  refine set_ofL (P := X.prog) (w := X.w) ns (I.ok.hd hc) pl.isList (by simpa using ints_of_vals rv) (by unfold scanBound; omega) fun g tk c R lc k => ?_
  exact ⟨.ref s.heap.objs.size, upd H s.heap.objs.size (SetO X.w s.heap.objs.size (fun j => decide (j ∈ ns)) c), I.laid (t' := tk) k (Nat.le_refl _) (setO_new R), rfl, q _ c hn lc⟩
def opSS (d : D) : Option R := match d with
  | .lst l => (match intsOf l with
    | some ns => if ns.length < 60 then some (.own (.lst ((sortU ns).map D.int))) else none
    | none => none)
  | _ => none
section
variable {C : Cs} {X : Cx} {fr : Fr} {W : WX} {Φ : PhiT} {pos p p2 pos2 : Pos} {e : Expr} {m : M R}
theorem pe_ssG (c : CtxOk C X fr W Φ) (hg : C.sc.names.lookup ("sorted" : Str) = some .globalImplicit) (hg2 : C.sc.names.lookup ("set" : Str) = some .globalImplicit) (h : PE X e (LE fr W Φ m)) (he : starEach [e] X.env = (false, eval e X.env) :: starEach [] X.env) :
    PE X (.Call (.Name "sorted" p) [.Call (.Name "set" p2) [e] [] pos2] [] pos) (LE fr W Φ (mOp1 opSS m)) := by
  refine PE.imp (pe_callB (cr_sortedSet c.calm) (show X.env.scope.names.lookup ("sorted" : Str) = _ by rw [c.sc]; exact hg) (c.free _ (by decide)) PyProof.Rows.boot_sorted
    (pa_cons (pe_callTy (cr_setL c.calm) (show X.env.scope.names.lookup ("set" : Str) = _ by rw [c.sc]; exact hg2) (c.free _ (by decide)) PyProof.Rows.boot_set (pa_cons (pe_opd h) pa_nil he) (by decide) (by decide) he (by rfl)) pa_nil (by rfl)) (by decide) (by decide) (by rfl) (by rfl)) fun σ H Q ⟨w, A, r⟩ => ⟨w, A, (ResG.bind (Rel' := RelP) antiR r).imp ?_⟩
  rintro x H1 ⟨d, w1, A1, N1, R1, h1⟩
  cases d with
  | lst l =>
    have h2 : ResG fr W σ H1 w1 (RelR σ) Q (ofO (match intsOf l with
      | some ns => if ns.length < 60 then some (.own (.lst ((sortU ns).map D.int))) else none
      | none => none) Φ ⟨w1.ρ, w1.S⟩) := h1
    cases e1 : intsOf l with
    | none => rw [e1] at h2; exact h2.elim
    | some ns =>
      rw [e1] at h2
      by_cases hn : ns.length < 60
      · have h3 : ResG fr W σ H1 w1 (RelR σ) Q (ofO (if ns.length < 60 then some (.own (.lst ((sortU ns).map D.int))) else none) Φ ⟨w1.ρ, w1.S⟩) := h2
        rw [if_pos hn] at h3
        obtain ⟨a, xs, rfl, hx, rx⟩ := pk_lst A1.good.sub R1
        have ex := intsOf_reps rx e1
        subst ex
        refine ⟨a, ns, rfl, .inl (.inl hx), hn, fun b cN hb lc => ⟨b, _, _, rfl, upd_same, by omega, fun ms q pw mem ln hq => ?_⟩⟩
        have em : ms = sortU ns := pw_unique pw (sortU_pw ns) fun y => by rw [mem, sortU_mem]; simp
        subst em
        have A2 := A1.push (o := SetO X.w b (fun j => decide (j ∈ ns)) cN) hb
        have N2 : Nx σ H1 w1 (upd H1 b (SetO X.w b (fun j => decide (j ∈ ns)) cN)) w1 := Nx.push hb
        refine h3 (.ref q) _ w1 rfl rfl (A2.push hq) (N2.trans (Nx.push hq)) ⟨q, rfl, none_back N2.there hq, A2.newF hq, A2.newB hq, A2.newO hq, _, upd_same, .lst (Reps.ints _)⟩
      · have h3 : ResG fr W σ H1 w1 (RelR σ) Q (ofO (if ns.length < 60 then some (.own (.lst ((sortU ns).map D.int))) else none) Φ ⟨w1.ρ, w1.S⟩) := h2
        rw [if_neg hn] at h3; exact h3.elim
  | _ => exact h1.elim
end
/-! ### x or y -/
def mOrT (a b : M R) : M R := fun Φ s => (mFrz a Φ s).bind fun d s1 => match d with
  | .bl k => if k = true then .ok (.val (.bl true)) s1 else b Φ s1
  | d => (match seqOf d with
    | some [] => b Φ s1
    | some _ => .ok (.val d) s1
    | none => .no)
section
variable {X : Cx} {fr : Fr} {W : WX} {Φ : PhiT} {pos : Pos} {a b : Expr} {rest : List Expr} {ma mb : M R}
theorem tru_seq {K : PySem.W.Frag} {F H : Hp} {B : List Addr} {v : V} {d : D} {l : List D} (hs : ∀ a o, F a = some o → H a = some o) (R : Rep F B v d) (h : seqOf d = some l) : TruV K v H (!l.isEmpty) := by
  cases R with
  | tup h1 r1 =>
    cases h
    refine .inr (.inl ⟨_, .inl (.inl (hs _ _ h1)), ?_⟩)
    cases r1 <;> rfl
  | lst h1 r1 =>
    cases h
    refine .inl ⟨_, .inl (.inl (hs _ _ h1)), ?_⟩
    cases r1 <;> rfl
  | _ => cases h
theorem peA_orT (ha : PE X a (LE fr W Φ ma)) (hb : PE X (.BoolOp .Or (b :: rest) pos) (LE fr W Φ mb)) : PE X (.BoolOp .Or (a :: b :: rest) pos) (LE fr W Φ (mOrT ma mb)) := by
  refine PE.imp (pe_orT (pe_frz ha) hb) fun σ H Q ⟨w, A, r⟩ => ⟨w, A, (ResG.bind (Rel' := RelV') antiR r).imp ?_⟩
  rintro x H1 ⟨d, w1, A1, N1, R1, h1⟩
  have seq : ∀ {l : List D}, seqOf d = some l → ResG fr W σ H1 w1 (RelR σ) Q (match (some l : Option (List D)) with
      | some [] => mb Φ ⟨w1.ρ, w1.S⟩
      | some _ => .ok (.val d) ⟨w1.ρ, w1.S⟩
      | none => .no) → ∃ k, TruV X.K x H1 k ∧ if k = true then Q x H1 else LE fr W Φ mb σ H1 Q := fun {l} e h => by
    refine ⟨!l.isEmpty, tru_seq A1.good.sub R1 e, ?_⟩
    cases l with
    | nil => exact ⟨w1, A1, h⟩
    | cons y r => exact h.here A1 R1
  cases d with
  | bl k =>
    cases R1
    have h2 : ResG fr W σ H1 w1 (RelR σ) Q (if k = true then .ok (.val (.bl true)) ⟨w1.ρ, w1.S⟩ else mb Φ ⟨w1.ρ, w1.S⟩) := h1
    refine ⟨k, rfl, ?_⟩
    cases k with
    | true => exact h2.here A1 (show Rep _ _ _ _ from .bl true)
    | false => exact ⟨w1, A1, h2⟩
  | tup l => exact seq rfl h1
  | lst l => exact seq rfl h1
  | _ => exact h1.elim
end
end DL
end

section
set_option Elab.async false
set_option linter.all false
set_option maxRecDepth 100000
set_option autoImplicit false
set_option maxHeartbeats 1000000
/-! DLE: behind a call that gives something flat, what is own is own again. -/
namespace DL
open PySem PySem.Spec PyProof.Rows L2
def mAuto (m : M R) : M R := fun Φ s => (m Φ s).bind fun r s1 => if flat r = true then .ok r { s1 with ρ := s.ρ } else .ok r s1
theorem auto_look {fr : Fr} {W : WX} {Φ : PhiT} {σ : L2.St} {H : Hp} {m : M R} {Q : VK} (h : LE fr W Φ (mAuto m) σ H Q) : LE fr W Φ m σ H Q := by
  obtain ⟨w, A, r⟩ := h
  have r' : ResG fr W σ H w (RelR σ) Q ((m Φ ⟨w.ρ, w.S⟩).bind fun r s1 => if flat r = true then .ok r { s1 with ρ := w.ρ } else .ok r s1) := r
  cases e : m Φ ⟨w.ρ, w.S⟩ with
  | no => rw [e] at r'; exact r'.elim
  | ex x s1 => refine ⟨w, A, ?_⟩; rw [e] at r' ⊢; exact r'
  | ok x s1 =>
    by_cases hf : flat x = true
    · refine flat_look ⟨w, A, ?_⟩
      show ResG fr W σ H w (RelR σ) Q ((m Φ ⟨w.ρ, w.S⟩).bind fun r s1 => if flat r = true then .ok r { s1 with ρ := w.ρ } else .no)
      rw [e] at r' ⊢
      have r2 : ResG fr W σ H w (RelR σ) Q (if flat x = true then .ok x { s1 with ρ := w.ρ } else .ok x s1) := r'
      show ResG fr W σ H w (RelR σ) Q (if flat x = true then .ok x { s1 with ρ := w.ρ } else .no)
      rw [if_pos hf] at r2 ⊢
      exact r2
    · refine ⟨w, A, ?_⟩
      rw [e] at r' ⊢
      have r2 : ResG fr W σ H w (RelR σ) Q (if flat x = true then .ok x { s1 with ρ := w.ρ } else .ok x s1) := r'
      rw [if_neg hf] at r2
      exact r2
theorem pe_auto {X : Cx} {fr : Fr} {W : WX} {Φ : PhiT} {e : Expr} {m : M R} (h : PE X e (LE fr W Φ m)) : PE X e (LE fr W Φ (mAuto m)) := PE.imp h fun _ _ _ q => auto_look q
end DL
end

section
set_option Elab.async false
set_option linter.all false
set_option maxRecDepth 100000
set_option autoImplicit false
set_option maxHeartbeats 1000000
/-! DL16: from the text to the meanings: expressions. -/
namespace DL
open PySem PySem.Spec PyProof.Rows L2

/-! ### looks at the text -/
def idx : List Str → Str → Option Nat
  | [], _ => none
  | y :: r, x => if (y == x) = true then some 0 else (idx r x).map (· + 1)
theorem idx_at : ∀ {N : List Str} {x : Str} {i : Nat}, idx N x = some i → N[i]? = some x
  | [], _, _, h => by cases h
  | y :: r, x, i, h => by
    unfold idx at h
    by_cases e : (y == x) = true
    · rw [if_pos e] at h; cases h; simp at e; subst e; rfl
    · rw [if_neg e] at h
      cases e2 : idx r x with
      | none => rw [e2] at h; cases h
      | some j => rw [e2] at h; cases h; simpa using idx_at e2
def okN (x : Str) : Bool := !(x == ("__debug__" : Str)) && !(x == ("__classdict__" : Str))
theorem okN_d {x : Str} (h : okN x = true) : (x == ("__debug__" : Str)) = false ∧ (x == ("__classdict__" : Str)) = false := by
  unfold okN at h
  simpa using h
def visB (sc : Scope) (x : Str) : Bool := match sc.names.lookup x with
  | some .local => true
  | some .cell => true
  | some .free => true
  | _ => false
theorem visB_vis {sc : Scope} {x : Str} (h : visB sc x = true) : Vis sc x := by
  unfold visB at h
  split at h <;> first | exact .inl (by assumption) | exact .inr (.inl (by assumption)) | exact .inr (.inr (by assumption)) | cases h
def gloB (sc : Scope) (x : Str) : Bool := match sc.names.lookup x with
  | some .globalImplicit => true
  | _ => false
theorem gloB_g {sc : Scope} {x : Str} (h : gloB sc x = true) : sc.names.lookup x = some .globalImplicit := by
  unfold gloB at h
  split at h <;> first | assumption | cases h
def noStar : Expr → Bool
  | .Starred _ _ => false
  | _ => true
def noStars : List Expr → Bool
  | [] => true
  | e :: r => noStar e && noStars r
theorem star_ok {e : Expr} (h : noStar e = true) (es : List Expr) (env : Env) : starEach (e :: es) env = (false, eval e env) :: starEach es env := by
  cases e <;> first | rfl | cases h
theorem star_any {pos : Pos} {env : Env} : ∀ {es : List Expr}, noStars es = true → (backTo pos (starEach es env)).any (·.1) = false
  | [], _ => by rfl
  | e :: r, h => by
    obtain ⟨h1, h2⟩ := Bool.and_eq_true_iff.mp (show (noStar e && noStars r) = true from h)
    rw [star_ok h1]
    have ih := star_any (pos := pos) (env := env) h2
    unfold backTo at ih ⊢
    simpa using ih
theorem star_all {pos : Pos} {env : Env} : ∀ {es : List Expr}, noStars es = true → (backTo pos (starEach es env)).all (fun x => !x.1) = true
  | [], _ => by rfl
  | e :: r, h => by
    obtain ⟨h1, h2⟩ := Bool.and_eq_true_iff.mp (show (noStar e && noStars r) = true from h)
    rw [star_ok h1]
    have ih := star_all (pos := pos) (env := env) h2
    unfold backTo at ih ⊢
    simpa using ih
def notSl : Expr → Bool
  | .Slice .. => false
  | _ => true
theorem notSl_plain {e : Expr} (h : notSl e = true) : PlainIx e := by
  intro o i
  cases e <;> first | rfl | cases h
def notSet : Expr → Bool
  | .Set .. => false
  | _ => true
theorem notSet_f {e : Expr} (h : notSet e = true) (env : Env) (x : Value) : foldedSetIterable e env x = Pure.pure x := by
  cases e <;> first | rfl | cases h
theorem notSet_m {e : Expr} (h : notSet e = true) (o : CmpOp) : behindInMarks o e = false := by
  cases e <;> first | rfl | cases h
def notTest : Expr → Bool
  | .UnaryOp .. => false
  | .BoolOp .. => false
  | .IfExp .. => false
  | .Compare .. => false
  | _ => true
theorem notTest_t {e : Expr} (h : notTest e = true) (env : Env) (whole : Sem Value) : isTrue e env whole = (do let v ← whole; standAt e.pos; holding [v] (truthy v)) := by
  cases e <;> first | rfl | cases h

/-! ### the context -/
structure Dx where
  C : Cs
  bf : Str → Bool
  bv : Str → Bool
  dv : Str → Bool
theorem pe_no {X : Cx} {fr : Fr} {W : WX} {Φ : PhiT} {e : Expr} : PE X e (LE fr W Φ M.no) := ⟨fun _ _ _ _ _ _ ⟨_, _, r⟩ => r.elim⟩
theorem pt_no {X : Cx} {fr : Fr} {W : WX} {Φ : PhiT} {e : Expr} : PT X e (LB fr W Φ M.no) := ⟨fun _ _ _ _ _ _ ⟨_, _, r⟩ => r.elim⟩
theorem pi_no {X : Cx} {fr : Fr} {W : WX} {Φ : PhiT} {tg e : Expr} : PI X tg e (LI fr W Φ M.no) := ⟨fun _ _ _ _ _ _ ⟨_, _, r⟩ => r.elim⟩
structure Ev where
  e : Dx → Bool → Expr → M R
  t : Dx → Expr → M Bool
  i : Dx → Expr → Expr → M (List D)
structure EvOk (v : Ev) : Prop where
  e : ∀ (d : Dx) (b : Bool) (e : Expr) (X : Cx) (fr : Fr) (W : WX) (Φ : PhiT), CtxOk d.C X fr W Φ → PE X e (LE fr W Φ (v.e d b e))
  t : ∀ (d : Dx) (e : Expr) (X : Cx) (fr : Fr) (W : WX) (Φ : PhiT), CtxOk d.C X fr W Φ → PT X e (LB fr W Φ (v.t d e))
  i : ∀ (d : Dx) (tg e : Expr) (X : Cx) (fr : Fr) (W : WX) (Φ : PhiT), CtxOk d.C X fr W Φ → PI X tg e (LI fr W Φ (v.i d tg e))

/-! ### the parts -/
def dConst : Const → M R
  | .int i => mC (.int i)
  | .bool b => mC (.bl b)
  | .none => mC .non
  | .str x => if PyData.strOk x = true then mC (.str x) else M.no
  | _ => M.no
def dName (d : Dx) (bor : Bool) (x : Str) : M R :=
  if okN x = true then
    (if visB d.C.sc x = true then (match idx d.C.N x with
      | some i => if bor = true then mBor i else mVar i
      | none => M.no)
    else if gloB d.C.sc x = true then (match d.C.tb x with
      | some (.int i) => mC (.int i)
      | _ => M.no)
    else M.no)
  else M.no
def dOp : Operator → Option (D → D → Option R)
  | .Add => some opAdd
  | .Sub => some opSub
  | .Mult => some opMul
  | .FloorDiv => some opDiv
  | .Mod => some opMod
  | .Pow => some opPow
  | _ => none
def dCop : CmpOp → D → D → Option R
  | .Eq => opEq
  | .NotEq => opNe
  | .Lt => opLt
  | .LtE => opLe
  | .Gt => opGt
  | .GtE => opGe
  | .Is => opIs
  | .IsNot => opIsNot
  | .In => opInA
  | .NotIn => opNotInA
def dIop : CmpOp → Option (Int → Int → Bool)
  | .Lt => some fun i j => decide (i < j)
  | .LtE => some fun i j => decide (i ≤ j)
  | .Gt => some fun i j => decide (j < i)
  | .GtE => some fun i j => decide (j ≤ i)
  | _ => none
def dCmp (v : Ev) (d : Dx) (a : Expr) : List CmpOp → List Expr → M R
  | [o], [b] => if notSet b = true then mOp2 (dCop o) (v.e d true a) (v.e d true b) else M.no
  | [o, o'], [b, c] => (match dIop o, dIop o' with
    | some f, some g => if notSet c = true then mChain f g (v.e d true a) (v.e d true b) (v.e d true c) else M.no
    | _, _ => M.no)
  | _, _ => M.no
def dBo (v : Ev) (d : Dx) (b : Bool) (o : BoolOp) : List Expr → M R
  | [] => M.no
  | [a] => v.e d b a
  | a :: r => (match o with
    | .And => mAndV (v.e d true a) (dBo v d b o r)
    | .Or => mOrT (v.e d false a) (dBo v d b o r))
def dBw (v : Ev) (d : Dx) (o : BoolOp) : List Expr → M Bool
  | [] => M.no
  | [a] => v.t d a
  | a :: r => (match o with
    | .And => mAnd (v.t d a) (dBw v d o r)
    | .Or => mOr (v.t d a) (dBw v d o r))
def dSub (v : Ev) (d : Dx) (a : Expr) : Expr → M R
  | .Slice lo hi none _ => mSl (v.e d true a) (lo.map (v.e d true)) (hi.map (v.e d true))
  | i => if notSl i = true then mIxA (v.e d true a) (v.e d true i) else M.no
def tyOf (x : Str) : Option Ty :=
  if (x == Str.ofString Ty.int.nm) = true then some .int
  else if (x == Str.ofString Ty.bool.nm) = true then some .bool
  else if (x == Str.ofString Ty.tuple.nm) = true then some .tuple
  else if (x == Str.ofString Ty.str.nm) = true then some .str
  else if (x == Str.ofString Ty.list.nm) = true then some .list
  else none
theorem tyOf_nm {x : Str} {t : Ty} (h : tyOf x = some t) : x = Str.ofString t.nm := by
  unfold tyOf at h
  split at h
  · cases h; simp_all
  · split at h
    · cases h; simp_all
    · split at h
      · cases h; simp_all
      · split at h
        · cases h; simp_all
        · split at h
          · cases h; simp_all
          · cases h
/-- range(..) of one argument -/
def isRg1 (d : Dx) : Expr → Option Expr
  | .Call (.Name x _) [a] [] _ => if (x == ("range" : Str)) = true then (if gloB d.C.sc ("range" : Str) = true then some a else none) else none
  | _ => none
/-- set(..) of one argument -/
def isSet1 (d : Dx) : Expr → Option Expr
  | .Call (.Name x _) [a] [] _ => if (x == ("set" : Str)) = true then (if gloB d.C.sc ("set" : Str) = true then some a else none) else none
  | _ => none
/-- zip(..) of two -/
def isZip2 (d : Dx) : Expr → Option (Expr × Expr)
  | .Call (.Name x _) [a, b] [] _ => if (x == ("zip" : Str)) = true then (if gloB d.C.sc ("zip" : Str) = true then some (a, b) else none) else none
  | _ => none
inductive Bi where
  | dict
  | len | isi | int | abs | sum | all | any | max | min | sorted | tuple | list | none
def Bi.nm : Bi → Str
  | .dict => "dict" | .len => "len" | .isi => "isinstance" | .int => "int" | .abs => "abs" | .sum => "sum" | .all => "all" | .any => "any" | .max => "max" | .min => "min" | .sorted => "sorted" | .tuple => "tuple" | .list => "list" | .none => ""
def biTab : List (Str × Bi) := [("len", .len), ("isinstance", .isi), ("int", .int), ("abs", .abs), ("sum", .sum), ("all", .all), ("any", .any), ("max", .max), ("min", .min), ("sorted", .sorted), ("tuple", .tuple), ("list", .list), ("dict", .dict)]
def biOf (x : Str) : Bi := match biTab.lookup x with
  | some b => b
  | none => .none
theorem biTab_nm : ∀ p ∈ biTab, p.1 = p.2.nm := by
  intro p hp
  simp only [biTab, List.mem_cons, List.not_mem_nil, or_false] at hp
  rcases hp with h | h | h | h | h | h | h | h | h | h | h | h | h <;> subst h <;> rfl
theorem biOf_nm {x : Str} {b : Bi} (h : biOf x = b) (hn : b ≠ .none) : x = b.nm := by
  unfold biOf at h
  cases e : biTab.lookup x with
  | none => rw [e] at h; exact absurd h.symm hn
  | some c =>
    rw [e] at h
    have h' : c = b := h
    subst h'
    exact biTab_nm _ (PySem.mem_of_lookup e)
def biOp : Bi → List D → Option R
  | .int => opInt
  | .abs => opAbs
  | .sum => opSum
  | .all => opAll
  | .any => opAny
  | .max => opMax
  | .min => opMin
  | .sorted => opSorted
  | .tuple => opTuple
  | .list => opList
  | _ => fun _ => none
def dIsi (v : Ev) (d : Dx) (a : Expr) : Expr → M R
  | .Name t _ => (match tyOf t with
    | some ty => if gloB d.C.sc (Str.ofString ty.nm) = true then mOp1 (opIsi ty) (v.e d true a) else M.no
    | none => M.no)
  | _ => M.no
def dBi (v : Ev) (d : Dx) : Bi → List Expr → M R
  | .len, [a] => if noStar a = true then mLenS (v.e d true a) else M.no
  | .isi, [a, t] => if noStar a = true then dIsi v d a t else M.no
  | .isi, _ => M.no
  | .len, _ => M.no
  | .none, _ => M.no
  | .dict, [a] => (match isZip2 d a with
    | some (b, c) => if noStars [b, c] = true then mDz (mArgs [v.e d false b, v.e d false c]) else M.no
    | none => M.no)
  | .dict, _ => M.no
  | .sorted, [a] => (match isSet1 d a with
    | some b => if noStar b = true then mOp1 opSS (v.e d true b) else M.no
    | none => if noStar a = true then mB opSorted (mLooks [v.e d true a]) else M.no)
  | .list, [a] => (match isRg1 d a with
    | some b => if noStar b = true then mOp1 opLr1 (v.e d true b) else M.no
    | none => if noStar a = true then mB opList (mLooks [v.e d true a]) else M.no)
  | b, a :: es => if noStars (a :: es) = true then mB (biOp b) (mLooks ((a :: es).map (v.e d true))) else M.no
  | _, [] => M.no
def noPar : Arguments → Bool
  | ⟨[], [], none, [], [], none, []⟩ => true
  | _ => false
theorem noPar_is {p : Arguments} (h : noPar p = true) : p = ⟨[], [], none, [], [], none, []⟩ := by
  unfold noPar at h
  split at h
  · rfl
  · cases h
def freeIx (N : List Str) (scope : Scope) : List Nat := scope.names.filterMap fun y => match y.2 with
  | .free => idx N y.1
  | _ => none
/-- the context of a lambda's body -/
def Dx.lamb (d : Dx) (scope : Scope) : Dx := { d with C := { d.C with lam := false, sc := scope, st := fun _ => false } }
def dLam (v : Ev) (d : Dx) : List Expr → M R
  | [.Lambda params body scope _] => if (noPar params && LamX.lamSB d.C.sc scope) = true then mSh (freeIx d.C.N scope) (mTried (v.e (d.lamb scope) false body)) else M.no
  | _ => M.no
def dCall (v : Ev) (d : Dx) (x : Str) (args : List Expr) : M R :=
  if okN x = true then
    (if gloB d.C.sc x = true then (match d.C.tb x with
      | some (.fn k ar) => (match args with
        | [] => M.no
        | a :: es => if noStars (a :: es) = true then (if (a :: es).length = ar then (if d.bf x = true then mBag (mCall k (mArgs ((a :: es).map (v.e d false)))) else mAuto (mCall k (mArgs ((a :: es).map (v.e d false))))) else M.no) else M.no)
      | some .tried => if d.C.lam = true then dLam v d args else M.no
      | some _ => M.no
      | none => dBi v d (biOf x) args)
    else M.no)
  else M.no
def dMeth (v : Ev) (d : Dx) (o : Expr) (m : Str) (ap cp : Pos) (args : List Expr) : M R := match o with
  | .Name x _ => if (m == ("pop" : Str)) = true then (if d.bv x = true then (match args with
      | [a] => if noStar a = true then (if (ap.endLine == cp.line) = true then mBagPop (dName d true x) (v.e d true a) else M.no) else M.no
      | _ => M.no) else M.no) else M.no
  | _ => M.no
def mapO {α β : Type} (f : α → Option β) : List α → Option (List β)
  | [] => some []
  | a :: r => (match f a with
    | some b => (match mapO f r with
      | some l => some (b :: l)
      | none => none)
    | none => none)
def dTg : Nat → Dx → Expr → Option Tg
  | 0, _, _ => none
  | n + 1, d, tg => match tg with
    | .Name x _ => if d.C.st x = true then (idx d.C.N x).map Tg.name else none
    | .Tuple es _ _ => if noStars es = true then ((mapO (dTg n d) es).map Tg.tup) else none
    | _ => none
def ownOf (N : List Str) (scope : Scope) : List (Str × Nat) := scope.names.filterMap fun y => match y.2 with
  | .local => (idx N y.1).map fun i => (y.1, i)
  | .cell => (idx N y.1).map fun i => (y.1, i)
  | _ => none
/-- the context of a comprehension's block -/
def Dx.blk (d : Dx) (scope : Scope) : Dx := { d with C := { d.C with lam := false, sc := relS scope d.C.sc, st := fun x => (match (relS scope d.C.sc).names.lookup x with
  | some .local => true
  | some .cell => scope.names.lookup x == some .cell
  | _ => false) } }
def dIfs (v : Ev) (d : Dx) : List Expr → M Bool
  | [] => fun _ s => .ok true s
  | [c] => v.t d c
  | _ => M.no
def dLc (v : Ev) (d : Dx) (elt : Expr) (gens : List Comprehension) (scope : Scope) : M R := match gens with
  | [⟨tg, iter, ifs, 0⟩] => (match dTg 6 (d.blk scope) tg with
    | some t => if notSet iter = true then (if blkC d.C.N d.C.sc scope (ownOf d.C.N scope) = true then (if (t.ix.all fun i => ((ownOf d.C.N scope).map (·.2)).contains i) = true then
        mComp (v.i d tg iter) t ((ownOf d.C.N scope).map (·.2)) (dIfs v (d.blk scope) ifs) (v.e (d.blk scope) false elt) else M.no) else M.no) else M.no
    | none => M.no)
  | _ => M.no
def stepE (v : Ev) (d : Dx) (b : Bool) : Expr → M R
  | .Constant c _ _ => dConst c
  | .Name x _ => dName d b x
  | .BinOp a op c _ => (match dOp op with
    | some f => mOp2 f (v.e d true a) (v.e d true c)
    | none => M.no)
  | .UnaryOp .Not a _ => mNotV (v.e d true a)
  | .UnaryOp .USub a _ => mOp1 opNeg (v.e d true a)
  | .BoolOp op l _ => dBo v d b op l
  | .Compare a ops bs _ => dCmp v d a ops bs
  | .IfExp c x y _ => mIfE (v.t d c) (v.e d b x) (v.e d b y)
  | .Tuple es _ _ => if noStars es = true then mTup (mArgs (es.map (v.e d false))) else M.no
  | .List es _ => if noStars es = true then mLst (mArgs (es.map (v.e d false))) else M.no
  | .Subscript a i _ => dSub v d a i
  | .Dict [] [] _ => mNewD
  | .Call (.Name x _) args [] _ => dCall v d x args
  | .Call (.Attribute o m ap) args [] cp => dMeth v d o m ap cp args
  | .ListComp elt gens scope _ => dLc v d elt gens scope
  | _ => M.no
def stepT (v : Ev) (d : Dx) : Expr → M Bool
  | .UnaryOp .Not a _ => mNot (v.t d a)
  | .UnaryOp _ _ _ => M.no
  | .BoolOp op l _ => dBw v d op l
  | .Compare a ops bs _ => mBool (dCmp v d a ops bs)
  | .IfExp _ _ _ _ => M.no
  | e => mBool (v.e d true e)
def isTupE : Expr → Bool
  | .Tuple .. => true
  | _ => false
def dIt (v : Ev) (d : Dx) (tg : Expr) (x : Str) (args : List Expr) (e : Expr) : M (List D) :=
  if (gloB d.C.sc x && (d.C.tb x).isNone) = true then
    (if (x == ("range" : Str)) = true then (match args with
      | [a] => if noStar a = true then mRange1 (mArgs [v.e d false a]) else M.no
      | [a, b] => if noStars [a, b] = true then mRange2 (mArgs [v.e d false a, v.e d false b]) else M.no
      | _ => M.no)
    else if (x == ("enumerate" : Str)) = true then (match args with
      | [a] => if (noStar a && isTupE tg) = true then mEnum (mArgs [v.e d false a]) else M.no
      | _ => M.no)
    else if (x == ("zip" : Str)) = true then (match args with
      | [a, b] => if (noStars [a, b] && isTupE tg) = true then mZip (mArgs [v.e d false a, v.e d false b]) else M.no
      | _ => M.no)
    else mSeqI (v.e d false e))
  else mSeqI (v.e d false e)
def stepI (v : Ev) (d : Dx) (tg : Expr) (e : Expr) : M (List D) := match e with
  | .Call (.Name x _) args [] _ => dIt v d tg x args e
  | _ => mSeqI (v.e d false e)
def den : Nat → Ev
  | 0 => ⟨fun _ _ _ => M.no, fun _ _ => M.no, fun _ _ _ => M.no⟩
  | n + 1 => ⟨stepE (den n), stepT (den n), stepI (den n)⟩
end DL
end

section
set_option Elab.async false
set_option linter.all false
set_option maxRecDepth 100000
set_option autoImplicit false
set_option maxHeartbeats 1000000
/-! DLX: what is raised: a class without fields, a class with one whole number. -/
namespace DL
open PySem PySem.Spec PyProof.Rows L2

theorem passLN {X : Cx} : Passes (L2N.CX X.prog X.w) X (fun _ _ _ => False) := fun _ _ _ _ _ _ _ z => by
  obtain ⟨_, _, _, _, _, _, _, _, _, _, _, _, z⟩ := z
  exact z.elim
/-- C(e), C's own __init__ keeping sp; the new object's context is none -/
theorem pmkN_oex {X : Cx} {y : Str} {e1 : Expr} {t1 : TA} {q1 q2 : Pos} {Ca fa : Addr} {lv : Nat} {fdd : FuncData} {pss : List Str} {spp : Sp} (hT : OexC X.K Ca) (hI : PySem.W.findIn X.K (.ref Ca) "__init__" = some (some (.ref fa))) (hty : PySem.W.typeIn X.K (.ref fa) = some (.type "function"))
    (hF : FnOk X.prog X.w X.K X.mg X.base (L2N.CX X.prog X.w) lv fa fdd pss spp) (hroom : Room (lv + 1) X.A) (hbd : Binds X.K fdd pss []) (hgl : Gl X y) (hmy : X.mg y = some (.ref Ca)) (hargs : PA X [e1] t1)
    (hdb : (y == ("__debug__" : Str)) = false) (hst : starEach [e1] X.env = [(false, eval e1 X.env)]) : L2N.PMk X (.Call (.Name y q1) [e1] [] q2) (tMkO Ca spp [] t1) := by
  intro pins s0 σ0 H0 Q0 I0 h0
  obtain ⟨n1, n2, n3, n4, bm, n5, n6, n7, n8, n9, m0, m1, m2, m3, m5, hCo, hbm⟩ := hT.cls
  refine wpAny_Call_Name_kw (ld_glob I0 hgl hmy ?_ hdb)
  refine PySem.W.callWith_K (h₀ := X.base) I0.ok.mod.kin hT.kC (thn (hargs.run q2 pins s0 σ0 H0 _ I0 h0) fun us s1 hh => ?_) hst (by rfl)
  obtain ⟨vs, H1, I1, r1, hz, k1⟩ := hh
  refine ⟨I1.kIn, ?_⟩
  show wpAny _ _ (call (.ref Ca) us) _ _ _
  obtain ⟨hp, gs, dr, tk, os⟩ := s1
  generalize hb0 : hp.objs.size + 1 = b0
  have hle : hp.objs.size ≤ b0 := by omega
  have hfree : H1 b0 = none := I1.hok.fresh hle
  have kq := k1 b0 hfree
  rw [List.append_nil] at kq
  generalize hhp : (hp.push (PySem.W.kdv_tup us)).push (PySem.HandSPX.excO Ca hp.objs.size) = hp2
  have keep2 : ∀ b o, hp.get? b = some o → hp2.get? b = some o := fun b o z => by
    rw [← hhp]; exact Heap.get?_push_of_some _ (Heap.get?_push_of_some _ z)
  have atb : hp2.get? b0 = some (PySem.HandSPX.excO Ca hp.objs.size) := by rw [← hhp, ← hb0]; heap_get
  have I2 : Inv X pins σ0 (upd H1 b0 (exo b0 Ca none)) ⟨hp2, gs, dr, tk, os⟩ := I1.laid (t' := tk) keep2 hle (exo_ok atb)
  have rv2 : Vals (V.ref b0 :: vs) (Value.ref b0 :: us) := .cons rfl r1
  have hlen : (Value.ref b0 :: us ++ []).length = pss.length := by
    rw [List.append_nil, ← rv2.length]; exact hF.len _ _ _ _ kq
  have husz : us.length ≤ sizeLine := by
    have := Paired.length r1
    rw [sizeLine_eq]; omega
  have bnd := hbd _ (Value.ref b0 :: us) I2.kIn hlen
  rw [List.append_nil] at bnd
  have goal2 : wpAny (model X.prog X.w) X.A (call (.ref Ca) us) (L2N.MkP X pins σ0 Q0) X.xe ⟨hp, gs, dr, tk, os⟩ := by
    subst hb0 hhp
    refine wpAny_call (PySem.HandSPX.call_own F.excBase_ValueError (fun Y => PySem.HandSPX.refsVE_contains Y bm hbm) (I1.kIn _ _ hCo) (PySem.W.looks_findIn I1.kIn hI) (fun self => PySem.W.bind_fn I1.kIn self hty) husz
      (codeAny_mono (hF.run _ X.stack _ _ ⟨Value.ref (hp.objs.size + 1) :: us, []⟩ (Value.ref (hp.objs.size + 1) :: us) _ _ (fun _ _ _ => False) (hroom.make Ca us []) (I2.env0.make Ca us []) bnd rv2 kq) fun r s2 hr => ?_))
    cases r with
    | error er => exact passLN pins σ0 _ _ er s2 I2 hr
    | ok fl =>
      cases fl with
      | next => exact False.elim hr
      | brk => exact False.elim hr
      | cont => exact False.elim hr
      | ret u =>
        obtain ⟨v, H2, os2, br2, un2, hok2, rv, ev, d, fs, ea, ed, hd1, kq2⟩ := hr
        subst ev
        obtain ⟨h2, g2, d2, t2, os'⟩ := s2
        obtain ⟨t0, G, J, kG, ge, hoe, na⟩ := mk_end0 (d2 := d2) (t2 := t2) I1 hle keep2 un2 hok2 os2 br2 ea ed hd1
        exact ⟨rv, hp.objs.size + 1, _, _, ⟨G, g2, d2, t2, os'⟩, _, .ref Ca, some d, rfl, J, kG, ge, hoe, ⟨rfl, rfl, fun ws hw => by cases hw; rfl⟩, rfl, rfl, na, rfl, br2, raises_own hT.exC hT.tyC, kq2⟩
  exact goal2

def mRaise (x : Str) : M Fl := fun _ s => .ex ⟨x, none⟩ s
def mRaise1 (x : Str) (m : M (List D)) : M Fl := fun Φ s => (m Φ s).bind fun ds s1 => match ds with
  | [.int i] => .ex ⟨x, some i⟩ s1
  | _ => .no
section
variable {C : Cs} {X : Cx} {fr : Fr} {W : WX} {Φ : PhiT} {pos p p2 p3 : Pos} {x z : Str} {j : Nat}
theorem ps_raise0 (c : CtxOk C X fr W Φ) (hg : C.sc.names.lookup x = some .globalImplicit) (hd : (x == ("__debug__" : Str)) = false) (he : Exc0 X fr.mg x) : PS X (.Raise (some (.Call (.Name x p) [.Constant (.str z) j p2] [] p3)) none pos) (LS fr W Φ (mRaise x)) := by
  obtain ⟨C0, h1, h2, h3, h4⟩ := he.ex
  refine PS.imp (L2N.ps_raise c.calm c.takes (L2N.pmk_own F.excBase_ValueError h2 (by rw [c.mg]; exact h1) h3 h4 (show X.env.scope.names.lookup x = _ by rw [c.sc]; exact hg) hd)) fun D σ H ⟨w, A, r⟩ => ?_
  exact r (.ref C0) none σ H w rfl rfl A ⟨h1, rfl⟩
theorem ps_raise1 {e : Expr} {m : M (List D)} (c : CtxOk C X fr W Φ) (hg : C.sc.names.lookup x = some .globalImplicit) (hd : (x == ("__debug__" : Str)) = false) (h5 : Room 2 X.A) (he : Exc1 X fr.mg x) (ha : PA X [e] (LA fr W Φ m)) (hs : starEach [e] X.env = [(false, eval e X.env)]) :
    PS X (.Raise (some (.Call (.Name x p) [e] [] p3)) none pos) (LS fr W Φ (mRaise1 x m)) := by
  obtain ⟨C0, fI, fd, ps, h1, h2, h3, h4, h6, h7⟩ := he.ex
  refine PS.imp (L2N.ps_raise c.calm c.takes (pmkN_oex h2 h3 h4 h7 h5 h6 (show X.env.scope.names.lookup x = _ by rw [c.sc]; exact hg) (by rw [c.mg]; exact h1) ha hd hs)) fun D σ H ⟨w, A, r⟩ => ?_
  refine ⟨w, A, (ResS.bind (Rel := RelA) r).imp ?_⟩
  rintro vs H1 ⟨ds, w1, A1, N1, R1, h⟩
  match ds, R1, h with
  | [.int i], R1, h =>
    cases R1 with
    | @cons v _ vs' _ r1 rr =>
      cases rr
      cases r1
      refine ⟨by simp, fun a hn => ⟨a, i, rfl, upd_same, fun dx hdx hne => ⟨rfl, dx, [("most", .int i)], upd_same, ?_, ?_, ?_⟩⟩⟩
      · rw [upd_ne hne, upd_same]
      · rw [upd_ne hne] at hdx; exact hdx
      · have hdx' : H1 dx = none := by rw [upd_ne hne] at hdx; exact hdx
        have e : upd (del (upd (upd (upd H1 a (exo a C0 none)) dx (exd dx [("most", .int i)])) a (exo a C0 (some dx))) a) dx (.xd [("most", .int i)]) = upd H1 dx (.xd [("most", .int i)]) := by
          funext b
          by_cases hb : b = dx
          · subst hb; rw [upd_same, upd_same]
          · rw [upd_ne hb, upd_ne hb]
            by_cases hb2 : b = a
            · subst hb2; rw [del_same, hn]
            · rw [del_ne hb2, upd_ne hb2, upd_ne hb, upd_ne hb2]
        rw [e]
        exact h (.ref C0) (some dx) σ _ w1 rfl rfl (A1.push hdx') ⟨h1, dx, rfl, upd_same⟩
end
end DL
end

section
set_option Elab.async false
set_option linter.all false
set_option maxRecDepth 100000
set_option autoImplicit false
set_option maxHeartbeats 1000000
/-! DLY: the __init__ of an exception that keeps one whole number. -/
namespace DL
open PySem PySem.Spec PyProof.Rows L2
section
variable {X : Cx} {e : Expr} {es : List Expr} {ta : TA} {pos p1 p2 : Pos}
/-- y.__init__(..), y an own class over ValueError that has none of its own -/
theorem pe_cinit {pl : Sem Bool} {y : Str} {C0 : Addr} {mc : Value} (hg : Gl X y) (hd : (y == ("__debug__" : Str)) = false) (hm : X.mg y = some (.ref C0)) (r : ClX.CRead X.K C0 mc) (vV : PySem.W.findCls X.K (.ref C0) mc "__init__" = some (.val (.builtin "ValueError.__init__"))) (ha : PA X (e :: es) ta)
    (he : starEach (e :: es) X.env = (false, eval e X.env) :: starEach es X.env) (hpl : (backTo pos (starEach es X.env)).any (·.1) = false)
    (hc : eval (.Call (.Attribute (.Name y p1) "__init__" p2) (e :: es) [] pos) X.env = (do
      let ov ← eval (.Name y p1) X.env
      standAt p2.atName
      let (f, first) ← holding [ov] (getMethod ov "__init__" pl)
      callWith pos f first (backTo pos (starEach (e :: es) X.env)) (backToKw pos (keywordEach [] X.env))) := by rfl) :
    PE X (.Call (.Attribute (.Name y p1) "__init__" p2) (e :: es) [] pos) (tVeI X.K ta) := by
  refine ⟨fun pins s σ H Q I h => ?_⟩
  refine PySem.W.methodCall_KW (ld_glob I hg hm ?_ hd) hc
  refine PySem.W.method_cls I.kIn r.ga (PySem.W.cls_value I.kIn r.rd vV (by decide +kernel) ?_)
  show wpAny _ _ (callWith pos (Value.builtin "ValueError.__init__") [] (backTo pos (starEach (e :: es) X.env)) []) _ _ _
  refine PyProof.Rows.callWith_method1 (thn (ha.run pos pins _ σ H _ (I.tok _) h) fun us s1 hh => ?_) he hpl
  obtain ⟨vs, H1, I1, r1, a, C, ws, ev, hl, T, ea, q⟩ := hh
  subst ev
  cases r1 with
  | @cons _ u0 _ ur ra rw' =>
    obtain rfl : u0 = Value.ref a := ra
    have hlen : ur.length ≤ sizeLine := by
      have := Paired.length rw'
      rw [sizeLine_eq]
      omega
    exact oinit_ok T I1 ea hlen fun s' J => ⟨.non, H1, J, rfl, q⟩
end
/-- y.__init__(self, text); self.f = the number -/
theorem init_fn {P : Program} {w : World} {K : PySem.W.Frag} {mg : Str → Option Value} {base : Heap} {x qual z f b : Str} {params : Arguments} {sc : Scope} {fI C C0 : Addr} {fd : FuncData} {mc : Value} {j : Nat} {q1 q2 q3 q4 q5 q6 q7 q8 q9 q10 q11 : Pos} {me : Str}
    (F : FunD K x qual params [.Expr (.Call (.Attribute (.Name "SteerError" q1) "__init__" q2) [.Name me q3, .Constant (.str z) j q4] [] q5) q6, .Assign [.Attribute (.Name me q7) f q8] (.Name b q9) q10] sc [] [] fI fd) (S : FnScope [me, b] [me, b] sc)
    (hT : OexC K C) (hno : PySem.W.findIn K (.ref C) f = some none) (hm : mg ("SteerError" : Str) = some (.ref C0)) (r : ClX.CRead K C0 mc) (vV : PySem.W.findCls K (.ref C0) mc "__init__" = some (.val (.builtin "ValueError.__init__")))
    (hg : sc.names.lookup ("SteerError" : Str) = some .globalImplicit) (v1 : Vis sc me) (v2 : Vis sc b) (k1 : okN me = true) (k2 : okN b = true)
    (hc : ∀ env : Env, ∃ pl : Sem Bool, eval (.Call (.Attribute (.Name "SteerError" q1) "__init__" q2) [.Name me q3, .Constant (.str z) j q4] [] q5) env = (do
      let ov ← eval (.Name "SteerError" q1) env
      standAt q2.atName
      let (f, first) ← holding [ov] (getMethod ov "__init__" pl)
      callWith q5 f first (backTo q5 (starEach [.Name me q3, .Constant (.str z) j q4] env)) (backToKw q5 (keywordEach [] env)))) :
    FnOk P w K mg base (L2N.CX P w) 1 fI fd [me, b] (spInit C f) := by
  refine F.ok S (fun vs H Q E h => by obtain ⟨a, i, rfl, _⟩ := h; rfl) fun cdv A outer s H vs Q E hr hsp => ?_
  obtain ⟨a, i, rfl, h1, h2⟩ := hsp
  obtain ⟨d1, c1⟩ := okN_d k1
  obtain ⟨d2, c2⟩ := okN_d k2
  have hn : (cxOf (L2N.CX P w) P w K mg base [me, b] qual sc fI cdv A outer s H E).N = [me, b] := rfl
  have pme : ∀ q : Pos, PE (cxOf (L2N.CX P w) P w K mg base [me, b] qual sc fI cdv A outer s H E) (.Name me q) _ := fun q => pe_var (i := 0) (by rw [hn]; rfl) v1 d1 c1
  have pb : ∀ q : Pos, PE (cxOf (L2N.CX P w) P w K mg base [me, b] qual sc fI cdv A outer s H E) (.Name b q) _ := fun q => pe_var (i := 1) (by rw [hn]; rfl) v2 d2 c2
  obtain ⟨pl, hce⟩ := hc (cxOf (L2N.CX P w) P w K mg base [me, b] qual sc fI cdv A outer s H E).env
  refine ⟨_, pss_cons (ps_expr (pe_cinit (pl := pl) (e := .Name me q3) (es := [.Constant (.str z) j q4]) (show _ = _ from hg) (by decide) hm r vV (pa_cons (pme q3) (pa_cons pe_str pa_nil)) (by rfl) (by rfl) hce) (by rfl)) (pss_one (ps_ost (pme q7) (pb q9))), ?_⟩
  have s0 : (L2.start [me, b] [V.ref a, V.int i])[0]? = some (some (.ref a)) := rfl
  have s1 : (L2.start [me, b] [V.ref a, V.int i])[1]? = some (some (.int i)) := rfl
  refine ⟨.ref a, s0, a, C, [.str z], rfl, by simp, hT, h1, ?_⟩
  refine ⟨.int i, s1, .ref a, s0, a, C, rfl, hT, hno, .inl ⟨h1, fun dx hdx hne => ?_⟩⟩
  exact h2 dx hdx hne
end DL
end

section
set_option Elab.async false
set_option linter.all false
set_option maxRecDepth 100000
set_option autoImplicit false
set_option maxHeartbeats 1000000
/-! DLT: try with several clauses, each naming the exception. -/
namespace DL
open PySem PySem.Spec PyProof.Rows L2

/-- the ends of a suite: the name is gone behind it -/
def goneE (D : Ends) (i : Nat) : Ends := { nx := fun σ' H' => D.nx (σ'.set i none) H', rt := D.rt, bk := fun σ' H' => D.bk (σ'.set i none) H', ct := fun σ' H' => D.ct (σ'.set i none) H' }
abbrev TSx := Addr → Value → Option Addr → TS
/-- the wish of the clauses, one after the other; slot i is the name's -/
def wishes (K : PySem.W.Frag) (i : Nat) (Wo : WX) (D : Ends) : List (Value × TSx) → WX
  | [] => Wo
  | (c, ts) :: r => fun cls d σ H => ∃ b, PySem.W.exmOne K cls c = some b ∧ (b = true → ∀ a, H a = none → ts a cls d (goneE D i) (σ.set i (some (.ref a))) H) ∧ (b = false → wishes K i Wo D r cls d σ H)
inductive Clauses (X : Cx) (n : Str) : List ExceptHandler → List (Value × TSx) → Prop
  | nil : Clauses X n [] []
  | cons {x : Str} {c : Value} {ts : TSx} {b0 : Stmt} {su : List Stmt} {np p1 : Pos} {hds : List ExceptHandler} {l : List (Value × TSx)} (hc : Names X x c)
      (hsu : ∀ (a : Addr) (oe : Obj) (cls : Value) (d : Option Addr) (pn : List (Addr × Obj)), L2N.Zn cls d oe → (∃ vs, oe.data = .fields vs) → PSs (X.suite a ((a, oe) :: pn)) (b0 :: su) (ts a cls d)) (r : Clauses X n hds l) :
      Clauses X n (.ExceptHandler (some (.Name x np)) (some n) (b0 :: su) p1 :: hds) ((c, ts) :: l)
section
variable {X : Cx} {n : Str} {i : Nat} {body : List Stmt} {h0 : ExceptHandler} {hds : List ExceptHandler} {l : List (Value × TSx)} {pos : Pos} {tb : WX → TS} {Wo : WX}
theorem ps_clauses (hst : X.stack = X.env :: X.outer) (hfl : X.env.frame = some X.env.locals) (hnd : X.N.Nodup) (hni : X.N[i]? = some n) (hkn : X.env.kindOf n = some .local) (tk : L2N.Takes X Wo)
    (hb : ∀ (W : WX) (pn : List (Addr × Obj)) (xe : Value → Shared → Prop), L2N.Takes (X.tr pn xe) W → PassesOwn (model X.prog X.w) X.A X.env xe → PSs (X.tr pn xe) body (tb W))
    (hh : Clauses X n (h0 :: hds) l) : PS X (.Try body (h0 :: hds) [] [] pos) (fun D σ H => tb (wishes X.K i Wo D l) D σ H) := by
  refine ⟨fun pins s σ H D I hyp => ?_⟩
  have okX := I.ok
  have hlo : Loc X.env.scope n := .inl hkn
  have hfr : X.A.frames = some (X.env :: X.outer) := by rw [okX.frames, hst]
  let catch_ : Value → Shared → Prop := fun e t1 => wpAny (model X.prog X.w) X.A (noteFrame e X.env) (fun _ t2 => wpAny (model X.prog X.w) X.A (setFlight e none)
    (fun _ t3 => wpAny (model X.prog X.w) X.A (handleBy e X.env (h0 :: hds)) (SP X pins D) X.xe t3) X.xe t2) X.xe t1
  refine wpAny_Try_except ?_
  refine wpAny_mono ((hb (wishes X.K i Wo D l) (X.pn ++ pins) catch_ (fun u t hx => ?_) PassesOwn.looking).run [] s σ H D (I.toTry _) hyp) (fun fl t hfin => ?_) (fun e t he => he)
  · obtain ⟨a, B, sI, pins2, σ2, H2, cls, d, rfl, J0, nb, up, sky, na, hos, ag, wsh⟩ := hx
    have J : Inv X pins σ2 H2 sI := J0.ofTry okX
    have sky2 : Sky B (X.env :: X.outer) a (L2N.Zn cls d) X.env.locals t.heap := by rw [← hst]; exact sky
    show wpAny (model X.prog X.w) X.A (noteFrame (.ref a) X.env) _ _ _
    refine L2N.Sky.land L2N.Zn.steady hfr hfl sky2 fun g3 fly3 up3 => ?_
    have J3 : Inv X pins σ2 H2 { t with heap := g3 } := J.landed nb fly3.1 (up.trans up3) hos ag
    obtain ⟨o3, v3, at3, z3, dt3⟩ := fly3.there
    have nofr : a ∉ frs (X.env :: X.outer) := fun hm => by
      obtain ⟨_, o', e', hnf⟩ := fly3.2.2.1.mem hm
      rw [at3] at e'; cases e'
      exact hnf _ dt3
    have neL : a ≠ X.env.locals := fun z => nofr (List.mem_filterMap.mpr ⟨X.env, List.mem_cons_self, by rw [hfl, z]⟩)
    have neF : a ∉ X.fs := fun hm => by
      obtain ⟨e, he, q⟩ := List.mem_filterMap.mp hm
      exact nofr (List.mem_filterMap.mpr ⟨e, List.mem_cons_of_mem _ he, q⟩)
    have U3 := J3.suite at3 dt3 na neL neF
    have each : ∀ {hs2 : List ExceptHandler} {l2 : List (Value × TSx)}, Clauses X n hs2 l2 → wishes X.K i Wo D l2 cls d σ2 H2 → wpAny (model X.prog X.w) X.A (handleBy (.ref a) X.env hs2) (SP X pins D) X.xe { t with heap := g3 } := by
      intro hs2 l2 hk
      induction hk with
      | nil =>
        intro wz
        refine wpAny_handleBy_nil ?_
        obtain ⟨k1, k2, k3, oe, vs, Tb, oT, ts', he, hz, hd, h1, hr⟩ := id fly3
        unfold PySem.passOn
        refine wpAny_bind (wpAny_field he hd h1 ?_)
        rw [if_neg (show ¬ ((Value.ref Tb == Value.none) = true) from by simp)]
        have out : wpAny (model X.prog X.w) X.A (setFlight (.ref a) X.env.frame) (fun _ t4 => wpAny (model X.prog X.w) X.A (throw (.ref a) : Sem Flow) (SP X pins D) X.xe t4) X.xe { t with heap := g3 } := by
          rw [hfl]
          refine HandSPX.setFlight_upZ fly3 fun g4 hh4 up4 => wpAny_throw (tk _ _ ⟨a, B, sI, pins, σ2, H2, cls, d, rfl, J, nb, (up.trans up3).trans up4, .inr (.inr (by rw [hst]; exact hh4)), na, hos, ag, wz⟩)
        first
          | exact wpAny_bind (wpAny_pure (wpAny_bind out))
          | exact wpAny_bind out
      | @cons x c ts b0 su np p1 hs3 l3 hc hsu r ih =>
        intro wz
        obtain ⟨b, ex1, yes, no⟩ := wz
        refine wpAny_handleBy_cons (codeAny_handlers_test ?_) (by intro q; cases q)
        have LT : PySem.W.Looks (model X.prog X.w) g3 (typeOf (.ref a)) cls := fun A Q E s k q => wpAny_typeOf_ref (k _ _ at3) (by rw [z3.1]; exact q)
        have LM := PySem.W.exm_one (M := model X.prog X.w) (J3.kIn) LT ex1
        have named : ∀ {Q : Value → Shared → Prop} {E : Value → Shared → Prop}, Q c { t with heap := g3 } → wpAny (model X.prog X.w) (X.A.mark (some (.ref a))) (eval (.Name x np) X.env) Q E { t with heap := g3 } := fun {Q E} q => by
          obtain ⟨hg, hdbg, hm | ⟨hm, hv, hnn⟩⟩ := hc
          · exact ld_glob (X := X.suite a ((a, o3) :: (X.pn ++ pins))) U3 hg hm q hdbg
          · exact ld_blt (X := X.suite a ((a, o3) :: (X.pn ++ pins))) U3 hg hm hv q hnn hdbg
        refine named (LM.here ?_)
        cases b with
        | false =>
          show wpAny _ X.A (handleBy (.ref a) X.env hs3) _ _ _
          exact ih (no rfl)
        | true =>
          refine codeAny_handlers_suite_as ?_
          refine HandSPX.lands_againZ fly3 fun g4 fly4 up4 => ?_
          have J4 : Inv X pins σ2 H2 { t with heap := g4 } := J.landed nb fly4.1 ((up.trans up3).trans up4) hos ag
          obtain ⟨o4, v4, at4, z4, dt4⟩ := fly4.there
          have U4 := J4.suite at4 dt4 na neL neF
          refine store_ok (X := X.suite a ((a, o4) :: (X.pn ++ pins))) (v := .ref a) U4 hnd hni hlo rfl (fun t5 U5 => ?_) (.inr hkn)
          refine wpAny_mono ((hsu a o4 cls d (X.pn ++ pins) z4 ⟨_, dt4⟩).run [] t5 _ H2 _ U5 (yes rfl a na)) (fun fl t6 hfin => ?_) (fun _ _ z => False.elim z)
          have ends : ∀ {σ6 : L2.St} {H6 : Hp} {Q : Shared → Prop}, Inv (X.suite a ((a, o4) :: (X.pn ++ pins))) [] σ6 H6 t6 → (∀ t7, Inv X pins (σ6.set i none) H6 t7 → Q t7) → wpAny (model X.prog X.w) X.A (do bindName X.env n .none; unbindBehindTheSuite X.env n p1) (fun _ t7 => Q t7) X.xe t6 :=
            fun {σ6 H6 Q} U6 hq => gone_ok (U6.unsuite okX) hnd hni hkn hq
          cases fl with
          | next => obtain ⟨_, _, U6, q6⟩ := hfin; exact ends U6 fun t7 J7 => ⟨_, _, J7, q6⟩
          | brk => obtain ⟨_, _, U6, q6⟩ := hfin; exact ends U6 fun t7 J7 => ⟨_, _, J7, q6⟩
          | cont => obtain ⟨_, _, U6, q6⟩ := hfin; exact ends U6 fun t7 J7 => ⟨_, _, J7, q6⟩
          | ret u => obtain ⟨_, _, _, U6, r6, q6⟩ := hfin; exact ends U6 fun t7 J7 => ⟨_, _, _, J7, r6, q6⟩
    exact each hh wsh
  · cases fl with
    | next => obtain ⟨_, _, J0, q⟩ := hfin; exact wpAny_execs_nil ⟨_, _, J0.ofTry okX, q⟩
    | brk => obtain ⟨_, _, J0, q⟩ := hfin; exact ⟨_, _, J0.ofTry okX, q⟩
    | cont => obtain ⟨_, _, J0, q⟩ := hfin; exact ⟨_, _, J0.ofTry okX, q⟩
    | ret u => obtain ⟨_, _, _, J0, r, q⟩ := hfin; exact ⟨_, _, _, J0.ofTry okX, r, q⟩
end
end DL
end

section
set_option Elab.async false
set_option linter.all false
set_option maxRecDepth 100000
set_option autoImplicit false
set_option maxHeartbeats 1000000
/-! DLH1: a list drawn to its end while an exception is handled. -/
namespace DL
open PySem PySem.Spec PyProof.Rows L2 HotX L2H
section
variable {prog : Program} {w : World} {A : Around} {E : Value → Shared → Prop} {s : Shared}
theorem list_end_hot {it l x1 : Addr} {i : Nat} {items : Array Value} {Q : Value → Shared → Prop} (hot : HotAt A x1 s.heap) (hne : x1 ≠ it) (hit : s.heap.IsListIter it l i) (hl : s.heap.IsList l items) (hx : items[i]? = none)
    (hE : ∀ h' e, Heap.ExtBut it s.heap h' → (∃ o, h'.get? e = some o ∧ o.cls = .type "StopIteration") → E (.ref e) { s with heap := h' }) : wpAny (model prog w) A (Builtin.SmallTypes.nextOf (.ref it)) Q E s := by
  obtain ⟨oi, hoi, hci, hdi⟩ := id hit
  obtain ⟨ol, hol, _, nl, hdl⟩ := hl
  obtain ⟨hh, o1, v1, h1, d1, c1⟩ := hot
  unfold Builtin.SmallTypes.nextOf
  refine wpAny_bind (wpAny_callSpecial?_slot (name := Str.ofString "__next__") hit.typeIs slot_listiter_next (wpAny_call_entry slot_listiter_next hit.typeIs entry_listiter_next ?_ (args_listiter_next _)))
  show wpAny _ _ (field (.ref it) 0 >>= _) _ _ s
  refine wpAny_bind (wpAny_field hoi hdi (x := .ref l) rfl ?_)
  show wpAny _ _ (if (Value.ref l == Value.none) = true then _ else _) _ _ s
  rw [if_neg (show ¬ ((Value.ref l == Value.none) = true) from Bool.false_ne_true)]
  show wpAny _ _ (field (.ref it) 1 >>= _) _ _ s
  refine wpAny_bind (wpAny_field hoi hdi (x := .int i 0) rfl ?_)
  show wpAny _ _ (seqItems? (.ref l) >>= _) _ _ s
  refine wpAny_bind (wpAny_seqItems hol hdl ?_)
  simp only [Int.toNat_natCast, hx]
  refine wpAny_bind (wpAny_rule (wpAny_bind (wpAny_setField hoi hdi (by simp) ?_)))
  show wpAny _ _ (newExc (.type "StopIteration") [] >>= _) _ _ _
  refine wpAny_bind ?_
  simp only [newExc, newTuple]
  refine wpAny_bind (wpAny_newObj_type ?_ (by size_fits))
  refine wpAny_bind (m := firstArgMember _ _) (wpAny_of_eq (a := Value.none) (by first | rfl | (simp only [firstArgMember]; rfl)) ?_)
  refine wpAny_newObj_type ?_ (by size_fits)
  have k1 : (s.heap.update it (Obj.mapFields (·.setIfInBounds 0 .none))).get? x1 = some o1 := by
    rw [Heap.get?_update_other _ _ (Ne.symm hne)]; exact h1
  refine raiseNew_hot ⟨hh, o1, v1, Heap.get?_push_of_some _ (Heap.get?_push_of_some _ k1), d1, c1⟩ (Nat.ne_of_lt (Heap.lt_size (Heap.get?_push_of_some _ k1))) (Heap.get?_push_size _ rfl) rfl (by first | (simp; done) | (simp; omega)) ?_
  refine hE _ _ (fun b o hb e => ?_) ⟨_, Heap.get?_update_self _ (Heap.get?_push_size _ rfl) rfl, rfl⟩
  have k2 : (s.heap.update it (Obj.mapFields (·.setIfInBounds 0 .none))).get? b = some o := by
    rw [Heap.get?_update_other _ _ (Ne.symm hb)]; exact e
  rw [Heap.get?_update_other _ _ (Nat.ne_of_gt (Heap.lt_size (Heap.get?_push_of_some _ k2)))]
  exact Heap.get?_push_of_some _ (Heap.get?_push_of_some _ k2)
end
end DL
end

section
set_option Elab.async false
set_option linter.all false
set_option maxRecDepth 100000
set_option autoImplicit false
set_option maxHeartbeats 1000000
/-! DLH2: tuples unpacked, zip, comprehensions while an exception is handled. -/
namespace DL
open PySem PySem.Spec PyProof.Rows L2 HotX L2H
/-- an exception is handled; it stood there when the context was entered -/
def HotB (X : Cx) : Prop := ∃ x1 : Addr, X.A.handled = some (.ref x1) ∧ X.H_0 x1 = none ∧ x1 ∉ X.fs ∧ x1 ∉ X.ex ∧ ∃ (o : Obj) (vs : Array Value), X.s_0.heap.get? x1 = some o ∧ o.data = .fields vs ∧ vs[2]? = some .none
theorem HotB.here {X : Cx} {pins : List (Addr × Obj)} {σ : L2.St} {H : Hp} {s : Shared} (hb : HotB X) (I : Inv X pins σ H s) : ∃ (x1 : Addr) (o : Obj) (vs : Array Value), X.A.handled = some (.ref x1) ∧ s.heap.get? x1 = some o ∧ o.data = .fields vs ∧ vs[2]? = some .none := by
  obtain ⟨x1, hh, n1, n2, n3, o, vs, g, d, c⟩ := hb
  exact ⟨x1, o, vs, hh, I.base.keep x1 o g n1 n2 n3, d, c⟩
section
variable {prog : Program} {w : World} {A : Around} {E : Value → Shared → Prop} {s : Shared}
theorem tup_end_hot {it l x1 : Addr} {i : Nat} {items : Array Value} {Q : Option Value → Shared → Prop} (hot : HotAt A x1 s.heap) (hne : x1 ≠ it) (hit : IsTupIter s.heap it l i) (hl : IsTup s.heap l items) (hx : items[i]? = none)
    (hQ : ∀ h', Heap.ExtBut it s.heap h' → Q none { s with heap := h' }) : wpAny (model prog w) A (pyNext (.ref it)) Q E s := by
  obtain ⟨oi, hoi, hci, hdi⟩ := id hit
  obtain ⟨ol, hol, _, nl, hdl⟩ := hl
  obtain ⟨hh, o1, v1, h1, d1, c1⟩ := hot
  unfold pyNext
  refine wpAny_bind (wpAny_attempt (wpAny_callSpecial?_slot (name := Str.ofString "__next__") hit.typeIs slot_tupleiter_next (wpAny_call_entry slot_tupleiter_next hit.typeIs entry_tupleiter_next ?_ (args_tupleiter_next _))))
  show wpAny _ _ (field (.ref it) 0 >>= _) _ _ s
  refine wpAny_bind (wpAny_field hoi hdi (x := .ref l) rfl ?_)
  show wpAny _ _ (if (Value.ref l == Value.none) = true then _ else _) _ _ s
  rw [if_neg (show ¬ ((Value.ref l == Value.none) = true) from Bool.false_ne_true)]
  show wpAny _ _ (field (.ref it) 1 >>= _) _ _ s
  refine wpAny_bind (wpAny_field hoi hdi (x := .int i 0) rfl ?_)
  show wpAny _ _ (seqItems? (.ref l) >>= _) _ _ s
  refine wpAny_bind (wpAny_seqItems hol hdl ?_)
  simp only [Int.toNat_natCast, hx]
  refine wpAny_bind (wpAny_rule (wpAny_bind (wpAny_setField hoi hdi (by simp) ?_)))
  show wpAny _ _ (newExc (.type "StopIteration") [] >>= _) _ _ _
  refine wpAny_bind ?_
  simp only [newExc, newTuple]
  refine wpAny_bind (wpAny_newObj_type ?_ (by size_fits))
  refine wpAny_bind (m := firstArgMember _ _) (wpAny_of_eq (a := Value.none) (by first | rfl | (simp only [firstArgMember]; rfl)) ?_)
  refine wpAny_newObj_type ?_ (by size_fits)
  have k1 : (s.heap.update it (Obj.mapFields (·.setIfInBounds 0 .none))).get? x1 = some o1 := by
    rw [Heap.get?_update_other _ _ (Ne.symm hne)]; exact h1
  refine raiseNew_hot ⟨hh, o1, v1, Heap.get?_push_of_some _ (Heap.get?_push_of_some _ k1), d1, c1⟩ (Nat.ne_of_lt (Heap.lt_size (Heap.get?_push_of_some _ k1))) (Heap.get?_push_size _ rfl) rfl (by first | (simp; done) | (simp; omega)) ?_
  refine wpAny_bind (wpAny_isInstance (T := "StopIteration") (b := true) ⟨_, Heap.get?_update_self _ (Heap.get?_push_size _ rfl) rfl, rfl⟩ isSubtype_stop ?_)
  refine wpAny_pure (hQ _ fun b o hb e => ?_)
  have k2 : (s.heap.update it (Obj.mapFields (·.setIfInBounds 0 .none))).get? b = some o := by
    rw [Heap.get?_update_other _ _ (Ne.symm hb)]; exact e
  rw [Heap.get?_update_other _ _ (Nat.ne_of_gt (Heap.lt_size (Heap.get?_push_of_some _ k2)))]
  exact Heap.get?_push_of_some _ (Heap.get?_push_of_some _ k2)
theorem unpack_hot {t x1 : Addr} {items : Array Value} {targets : List (Bool × (Value → Sem Unit))} {Q : Unit → Shared → Prop} (hot : HotAt A x1 s.heap) (ht : IsTup s.heap t items)
    (hn : targets.length = items.size) (hstar : targets.findIdx? (·.1) = none)
    (h : ∀ h', Heap.ExtBut s.heap.objs.size s.heap h' → wpAny (model prog w) A (assignInOrder (targets.map (·.2)) items.toList) Q E { s with heap := h' }) : wpAny (model prog w) A (unpack (.ref t) targets) Q E s := by
  have lt : t ≠ s.heap.objs.size := by obtain ⟨o, ho, _⟩ := id ht; exact Nat.ne_of_lt (Heap.lt_size ho)
  unfold unpack
  rw [hn, hstar]
  refine wpAny_bind (wpAny_holding ?_)
  unfold unpackItems
  refine wpAny_bind ?_
  unfold notIterableAtAll
  refine wpAny_bind (wpAny_specialOf ht.typeIs slot_tuple_iter.lookup ?_)
  refine wpAny_pure ?_
  simp only [Bool.false_eq_true, if_false]
  refine wpAny_bind (wpAny_holding (iter_tuple ht ?_))
  refine wpAny_bind (wpAny_holding (draw_tuple lt items.size 0 _ _ ⟨_, Heap.get?_push_size _ rfl, rfl, rfl⟩ (ht.push _) (by omega) fun g1 it1 sb1 => ?_))
  have all : List.take items.size (List.drop 0 items.toList) = items.toList := by rw [List.drop_zero]; exact List.take_of_length_le (by simp)
  rw [all, if_neg (by simp)]
  have t1 : IsTup g1 t items := (ht.push _).extBut sb1.extBut lt
  obtain ⟨hh, o1, v1, h1, d1, c1⟩ := hot
  have nx1 : x1 ≠ s.heap.objs.size := Nat.ne_of_lt (Heap.lt_size h1)
  refine wpAny_bind (wpAny_holding (tup_end_hot ⟨hh, o1, v1, sb1.extBut _ _ nx1 (Heap.get?_push_of_some _ h1), d1, c1⟩ nx1 it1 t1 (by simp) fun g2 eb2 => ?_))
  simp only [Option.isSome_none, Bool.false_eq_true, if_false]
  exact wpAny_pure (h g2 fun b o hb e => eb2 b o hb (sb1.extBut b o hb (Heap.get?_push_of_some _ e)))
theorem drawsL_hot {x1 : Addr} {o1 : Obj} {v1 : Array Value} (hh : A.handled = some (.ref x1)) (d1 : o1.data = .fields v1) (c1 : v1[2]? = some .none) (it l : Addr) (hne : l ≠ it) (nx : x1 ≠ it) (items : Array Value) :
    Draws prog w A it [it, l, x1] items.size (fun i v => items[i]? = some v) (fun i h => (h.IsListIter it l i ∧ h.IsList l items) ∧ h.get? x1 = some o1) where
  live := fun _ _ st => let ⟨o, ho, _⟩ := st.1.1; ⟨o, ho⟩
  frame := fun _ _ _ st hk => ⟨⟨st.1.1.at fun o e => hk it (by simp) o e, st.1.2.at fun o e => hk l (by simp) o e⟩, hk x1 (by simp) _ st.2⟩
  item := fun i s Q E hi st hQ => by
    refine wpAny_nextOf_list_item st.1.1 st.1.2 (x := items[i]) (by simp [hi]) fun h' hit' hs' => ?_
    exact hQ _ h' s.toks (by simp [hi]) ⟨⟨hit', st.1.2.extBut hs'.extBut hne⟩, hs'.extBut _ _ nx st.2⟩ hs'
  done := fun s Q E st hE => list_end_hot ⟨hh, o1, v1, st.2, d1, c1⟩ nx st.1.1 st.1.2 (by simp) hE
end
section
variable {X : Cx} {pos : Pos}
theorem pg_tupH {es : List Expr} {k : Nat} {t : TGs} {n : Nat} (hb : HotB X) (h : PGs X es t)
    (hn : (assignEach es X.env).length = n) (hst : (assignEach es X.env).findIdx? (·.1) = none) : PG X (.Tuple es k pos) (gTup X.K n t) := by
  refine ⟨fun pins s σ H v u Q I r hw => ?_⟩
  obtain ⟨a, xs, e1, hq, hl, hw⟩ := hw
  subst e1
  cases r
  obtain ⟨its, rv, ht, hz⟩ := I.tuple hq
  obtain ⟨x1, o, vs, hh, g, d, c⟩ := hb.here I
  rw [assign_Tuple]
  refine wpAny_bind (wpAny_standAt (unpack_hot ⟨hh, o, vs, g, d, c⟩ ht (by simp [hn, ← hl, rv.length]) hst fun h' hx => ?_))
  have I1 : Inv X pins σ H { s with heap := h' } := I.kept (t' := s.toks) fun b o e => hx b o (Nat.ne_of_lt (Heap.lt_size e)) e
  exact h.run pins _ σ H xs _ Q I1 (by simpa using rv) hw
end
/-- the turns of an iterator while an exception is handled -/
structure TurnX (P : Program) (w : World) (K : PySem.W.Frag) (tg : Expr) (J : It) (fp : List Addr) (it : Addr) (tn : Nat → Heap → Prop) : Prop where
  mem : it ∈ fp
  obj : ∀ i h, tn i h → ∀ b ∈ fp, ∃ o, h.get? b = some o ∧ ∀ v, o.data ≠ .cell v
  keep : ∀ i h h', tn i h → (∀ b ∈ fp, ∀ o, h.get? b = some o → h'.get? b = some o) → tn i h'
  item : ∀ (X : Cx), X.prog = P → X.w = w → X.K = K → HotB X → (∀ x1, X.A.handled = some (.ref x1) → x1 ∉ fp) → ∀ (i : Nat) (pins : List (Addr × Obj)) (s : Shared) (σ : L2.St) (H : Hp) (E : Value → Shared → Prop), Inv X pins σ H s → (∀ b ∈ fp, FpOk X pins H b) → tn i s.heap → J.go i H →
    wpAny (model P w) X.A (pyNext (.ref it)) (fun r s1 => ∃ u, r = some u ∧
      wpAny (model P w) X.A (letOwnedTupleGo tg (.ref it) u) (fun _ s2 => ∃ x H', Inv X pins σ H' s2 ∧ RelV x u ∧ J.yld i H x H' ∧ tn (i + 1) s2.heap ∧ ∀ b ∈ fp, H' b = none) E s1) E s
  done : ∀ (X : Cx), X.prog = P → X.w = w → X.K = K → HotB X → (∀ x1, X.A.handled = some (.ref x1) → x1 ∉ fp) → ∀ (i : Nat) (pins : List (Addr × Obj)) (s : Shared) (σ : L2.St) (H : Hp) (E : Value → Shared → Prop), Inv X pins σ H s → (∀ b ∈ fp, FpOk X pins H b) → tn i s.heap → J.stop i H →
    wpAny (model P w) X.A (pyNext (.ref it)) (fun r s1 => r = none ∧ Inv X pins σ H s1) E s
  self : ∀ (A : Around) (i : Nat) (s : Shared) (Q : Value → Shared → Prop) (E : Value → Shared → Prop), tn i s.heap → Q (.ref it) s → wpAny (model P w) A (pyIter (.ref it)) Q E s
section
theorem sep_hot {a b z TI TO i1 i2 x1 : Addr} (D : ZipSep2 z TI TO i1 i2 [i1, a] [i2, b]) (nx : x1 ∉ [z, TI, TO, i1, i2]) : ZipSep2 z TI TO i1 i2 [i1, a, x1] [i2, b, x1] := by
  have n : x1 ≠ z ∧ x1 ≠ TI ∧ x1 ≠ TO ∧ x1 ≠ i1 ∧ x1 ≠ i2 := by simpa using nx
  obtain ⟨n1, n2, n3, n4, n5⟩ := n
  have f1 := D.zf1
  have f2 := D.Tf1
  have f3 := D.zf2
  have f4 := D.Tf2
  have f5 := D.sep1_2
  have f6 := D.sep2_1
  exact ⟨D.TIz, D.TOz, D.TITO, D.TIi1, by simp, by simp at f1 ⊢; exact ⟨f1.1, f1.2, Ne.symm n1⟩, by simp at f2 ⊢; exact ⟨f2.1, f2.2, Ne.symm n3⟩, D.TIi2, by simp, by simp at f3 ⊢; exact ⟨f3.1, f3.2, Ne.symm n1⟩, by simp at f4 ⊢; exact ⟨f4.1, f4.2, Ne.symm n3⟩, by simp at f5 ⊢; exact ⟨f5.1, f5.2, Ne.symm n4⟩, by simp at f6 ⊢; exact ⟨f6.1, f6.2, Ne.symm n5⟩⟩
theorem turn_zipX {P : Program} {w : World} {K : PySem.W.Frag} {elts : List Expr} {kk : Nat} {tpos : Pos} {a b z TI TO i1 i2 : Addr} (D : ZipSep2 z TI TO i1 i2 [i1, a] [i2, b]) :
    TurnX P w K (.Tuple elts kk tpos) (ItzA true true K a b) [z, TI, TO, i1, i2] z (fun i h => IsZip h z TI TO .none ∧ IsTupOf2 h TI (.ref i1) (.ref i2) ∧ (∃ x y, IsTupOf2 h TO x y) ∧ IsIt true h i1 a i ∧ IsIt true h i2 b i ∧ a ≠ i1 ∧ b ≠ i2) where
  mem := by simp
  obj := fun i h st c hc => (turn_zipA (P := P) (w := w) (K := K) (elts := elts) (kk := kk) (tpos := tpos) (k := true) (j := true) D).obj i h st c hc
  keep := fun i h h' st k => (turn_zipA (P := P) (w := w) (K := K) (elts := elts) (kk := kk) (tpos := tpos) (k := true) (j := true) D).keep i h h' st k
  item := by
    intro X hP hw hK hc hx1 i pins s σ H E I hf st hg
    subst hP hw hK
    obtain ⟨hz, hTI, ⟨p0, q0, hTO⟩, h1, h2, ha1, hb2⟩ := st
    obtain ⟨xs, ys, x, y, hqx, hqy, hx, hy⟩ := hg
    obtain ⟨its, rv, p, _⟩ := seqA I hqx
    obtain ⟨its2, rv2, p2, _⟩ := seqA I hqy
    obtain ⟨u, hu, ru⟩ := rv.get hx
    obtain ⟨u2, hu2, ru2⟩ := rv2.get hy
    have zlt : z < s.heap.objs.size := Heap.lt_size hz
    obtain ⟨xh, oh, vh, hh, gh, dh, ch⟩ := hc.here I
    have nxh := hx1 xh hh
    have n : xh ≠ z ∧ xh ≠ TI ∧ xh ≠ TO ∧ xh ≠ i1 ∧ xh ≠ i2 := by simpa using nxh
    have hh1 : X.A.in1.handled = some (.ref xh) := hh
    have l1 : i < its.toArray.size := by simpa using (List.getElem?_eq_some_iff.mp hu).1
    have l2 : i < its2.toArray.size := by simpa using (List.getElem?_eq_some_iff.mp hu2).1
    refine wpAny_pyNext_zipD2_item (sep_hot D nxh) (drawsL_hot hh1 dh ch i1 a ha1 n.2.2.2.1 its.toArray) (drawsL_hot hh1 dh ch i2 b hb2 n.2.2.2.2 its2.toArray) hz hTI hTO ⟨⟨h1, p⟩, gh⟩ ⟨⟨h2, p2⟩, gh⟩ l1 l2 fun x1 x2 h' tk y1 y2 z' TO' h1' h2' hT hsz hk => ?_
    have e1 : x1 = u := by
      have q1 : its.toArray[i]? = some x1 := y1
      rw [List.getElem?_toArray, hu] at q1
      exact (Option.some.inj q1).symm
    have e2 : x2 = u2 := by
      have q1 : its2.toArray[i]? = some x2 := y2
      rw [List.getElem?_toArray, hu2] at q1
      exact (Option.some.inj q1).symm
    subst e1 e2
    refine ⟨_, rfl, wpAny_letOwnedTupleGo_zip (s := { s with heap := h', toks := tk }) z' fun h'' z'' sb => ?_⟩
    have hT2 : h''.get? s.heap.objs.size = some { cls := .type "tuple", data := .seq #[x1, x2] } := (sb.2 _ (Nat.ne_of_gt zlt)).trans hT
    have new : ObjOk X.prog X.w (upd H s.heap.objs.size (.tup [x, y])) h'' s.heap.objs.size (.tup [x, y]) :=
      ⟨by show 2 ≤ sizeLine; decide, [x1, x2], .cons ru (.cons ru2 .nil), ⟨_, hT2, rfl, _, rfl⟩⟩
    have I1 : Inv X pins σ (upd H s.heap.objs.size (.tup [x, y])) { s with heap := h'', toks := tk } :=
      I.turnedNew (t' := tk) (ch := [z, TI, TO, i1, i2]) (fun c o hb q => (sb.2 c (fun q' => hb (by simp [q']))).trans (hk c o (fun q' => hb (by simp [q'])) (fun q' => hb (by simp [q'])) (fun q' => hb (by simp [q'])) (fun q' => hb (by simp [q'])) q)) hf (Nat.le_refl _) new
    refine ⟨.ref s.heap.objs.size, _, I1, rfl, ⟨_, x, y, rfl, I.hok.fresh (Nat.le_refl _), rfl, fun l hl => by rw [seqA_inj I hl hqx]; exact hx, fun l hl => by rw [seqA_inj I hl hqy]; exact hy⟩, ⟨z'', ?_, ⟨x1, x2, ?_⟩, ?_, ?_, ha1, hb2⟩, fun c hcm => ?_⟩
    · exact (sb.2 _ D.TIz).trans (hk _ _ D.TIz D.TITO D.TIi1 D.TIi2 hTI)
    · exact (sb.2 _ D.TOz).trans TO'
    · exact IsIt.kp (k := true) (show IsIt true h' i1 a (i + 1) from h1'.1.1) fun o q => (sb.2 _ (Ne.symm D.zi1)).trans q
    · exact IsIt.kp (k := true) (show IsIt true h' i2 b (i + 1) from h2'.1.1) fun o q => (sb.2 _ (Ne.symm D.zi2)).trans q
    · have hlt : c < s.heap.objs.size := by
        have e' : c = z ∨ c = TI ∨ c = TO ∨ c = i1 ∨ c = i2 := by simpa using hcm
        rcases e' with q | q | q | q | q
        · rw [q]; exact zlt
        · rw [q]; exact Heap.lt_size hTI
        · rw [q]; exact Heap.lt_size hTO
        · rw [q]; obtain ⟨_, e1, _⟩ := h1.obj; exact Heap.lt_size e1
        · rw [q]; obtain ⟨_, e2, _⟩ := h2.obj; exact Heap.lt_size e2
      rw [upd_ne (Nat.ne_of_lt hlt)]
      exact (hf c hcm).1
  done := by
    intro X hP hw hK hc hx1 i pins s σ H E I hf st hg
    subst hP hw hK
    obtain ⟨hz, hTI, ⟨p0, q0, hTO⟩, h1, h2, ha1, hb2⟩ := st
    obtain ⟨xs, ys, hqx, hqy, hend⟩ := hg
    obtain ⟨its, rv, p, _⟩ := seqA I hqx
    obtain ⟨its2, rv2, p2, _⟩ := seqA I hqy
    obtain ⟨xh, oh, vh, hh, gh, dh, ch⟩ := hc.here I
    have nxh := hx1 xh hh
    have n : xh ≠ z ∧ xh ≠ TI ∧ xh ≠ TO ∧ xh ≠ i1 ∧ xh ≠ i2 := by simpa using nxh
    have hh1 : X.A.in1.handled = some (.ref xh) := hh
    have l1 : its.toArray.size = xs.length := by simp; exact rv.length.symm
    have l2 : its2.toArray.size = ys.length := by simp; exact rv2.length.symm
    exact wpAny_pyNext_zipD2_end (sep_hot D nxh) (drawsL_hot hh1 dh ch i1 a ha1 n.2.2.2.1 its.toArray) (drawsL_hot hh1 dh ch i2 b hb2 n.2.2.2.2 its2.toArray) hz hTI hTO ⟨⟨h1, p⟩, gh⟩ ⟨⟨h2, p2⟩, gh⟩ (by omega) (by omega) (by omega) fun h' tk hk => ⟨rfl, I.turnedL (t' := tk) (ch := [z, TI, TO, i1, i2]) (fun c o hb q =>
      hk c o (fun q' => hb (by simp [q'])) (fun q' => hb (by simp [q'])) (fun q' => hb (by simp [q'])) (fun q' => hb (by simp [q'])) q) hf⟩
  self := fun A i s Q E st h => wpAny_pyIter_zip st.1 h
end
def PIEX (X : Cx) (pins : List (Addr × Obj)) (σ : L2.St) (tg : Expr) (R : It → Hp → Prop) (itv : Value) (s2 : Shared) : Prop :=
  ∃ (it : Addr) (fp : List Addr) (tn : Nat → Heap → Prop) (J : It) (H' : Hp), itv = .ref it ∧ Inv X pins σ H' s2 ∧ TurnX X.prog X.w X.K tg J fp it tn ∧ tn 0 s2.heap ∧ (∀ b ∈ fp, FpOk X pins H' b) ∧ R J H'
structure PIX (X : Cx) (tg iter : Expr) (wi : TI) : Prop where
  run : ∀ (pins : List (Addr × Obj)) (s : Shared) (σ : L2.St) (H : Hp) (R : It → Hp → Prop), Inv X pins σ H s → wi σ H R →
    wpAny (model X.prog X.w) X.A (eval iter X.env) (fun v s1 => wpAny (model X.prog X.w) X.A (pyIter v) (PIEX X pins σ tg R) X.xe s1) X.xe s
def iZipX (K : PySem.W.Frag) (ta : TA) : TI := fun σ H R => ta σ H fun vs H1 => ∃ a b xs ys, vs = [.ref a, .ref b] ∧ SqA true K H1 a xs ∧ SqA true K H1 b ys ∧ R (ItzA true true K a b) H1
theorem pi_zipX {X : Cx} {e e2 : Expr} {ta : TA} {p pos tpos : Pos} {elts : List Expr} {kk : Nat} (hg : Gl X "zip") (hm : X.mg "zip" = none) (ha : PA X [e, e2] ta)
    (hs : starEach [e, e2] X.env = (false, eval e X.env) :: starEach [e2] X.env) (hpl : (backTo pos (starEach [e2] X.env)).any (·.1) = false) :
    PIX X (.Tuple elts kk tpos) (.Call (.Name "zip" p) [e, e2] [] pos) (iZipX X.K ta) := by
  refine ⟨fun pins s σ H R I h => ?_⟩
  refine Call_ (ld_blt I hg hm PyProof.Rows.boot_zip (PyProof.Rows.callWith_type1 (thn (ha.run pos pins s σ H _ I h) fun us s1 ⟨vs, H1, I1, r1, q1⟩ => ?_) hs hpl))
  obtain ⟨a, b, xs, ys, ex, hqx, hqy, q⟩ := q1
  subst ex
  cases r1 with
  | cons r rr =>
    cases rr with
    | cons r' rr =>
      cases rr
      cases r
      cases r'
      obtain ⟨its, rv, p1, la⟩ := seqA I1 hqx
      obtain ⟨its2, rv2, p2, lb⟩ := seqA I1 hqy
      refine zip_begins2 (beginsA (k := true) a its.toArray) (beginsA (k := true) b its2.toArray) p1 p2 fun h' hz hTI hTO h1 h2 hsz hk => wpAny_pyIter_zip hz ?_
      have I2 : Inv X pins σ H1 { s1 with heap := h' } := I1.kept (t' := s1.toks) hk
      refine ⟨s1.heap.objs.size + 4, [s1.heap.objs.size + 4, s1.heap.objs.size + 2, s1.heap.objs.size + 3, s1.heap.objs.size, s1.heap.objs.size + 1], _, _, H1, rfl, I2, turn_zipX (zip_sep2 (by simpa using la) (by simpa using lb)), ⟨hz, hTI, ⟨_, _, hTO⟩, itO_is h1, itO_is h2, Nat.ne_of_lt la, Nat.ne_of_lt (Nat.lt_succ_of_lt lb)⟩, fun c hcm => ?_, q⟩
      have e' : c = s1.heap.objs.size + 4 ∨ c = s1.heap.objs.size + 2 ∨ c = s1.heap.objs.size + 3 ∨ c = s1.heap.objs.size ∨ c = s1.heap.objs.size + 1 := by simpa using hcm
      have hle : s1.heap.objs.size ≤ c := by
        rcases e' with z | z | z | z | z
        · rw [z]; exact Nat.le_add_right _ _
        · rw [z]; exact Nat.le_add_right _ _
        · rw [z]; exact Nat.le_add_right _ _
        · rw [z]; exact Nat.le_refl _
        · rw [z]; exact Nat.le_add_right _ _
      exact I1.fpOk hle (I1.hok.fresh hle)
end DL
end

section
set_option Elab.async false
set_option linter.all false
set_option maxRecDepth 100000
set_option autoImplicit false
set_option maxHeartbeats 1000000
/-! DLH3: a list comprehension while an exception is handled. -/
namespace DL
open PySem PySem.Spec PyProof.Rows L2 HotX L2H
abbrev lcPost (X : Cx) (use : Option (Value → Sem Unit)) (Qf : Value → Shared → Prop) (D C : Addr) := compPost (model X.prog X.w) X.A X.xe use Qf (.ref D) C
theorem hot_blk {X : Cx} {pins : List (Addr × Obj)} {σ : L2.St} {H : Hp} {s : Shared} {scope : Scope} {cenv : Env} {fp : List Addr} (hc : HotC X) (I : Inv X pins σ H s) (hf : ∀ b ∈ fp, FpOk X pins H b) : HotB (X.blk s H scope cenv fp) ∧ ∀ x1, X.A.handled = some (.ref x1) → x1 ∉ fp := by
  obtain ⟨p, ⟨hh, vs, e1, c1⟩, hp⟩ := hc
  obtain ⟨g, n, nl, nf, nc⟩ := I.pin p (List.mem_append_left _ hp)
  have nfp : p.1 ∉ fp := fun hm => (hf p.1 hm).2.2.2.2.2 p (List.mem_append_left _ hp) rfl
  refine ⟨⟨p.1, hh, n, fun hm => ?_, nfp, p.2, vs, g, e1, c1⟩, fun x1 hx => ?_⟩
  · rcases List.mem_cons.mp (I.stkSub p.1 hm) with z | z
    · exact nl z
    · exact nf z
  · rw [hh] at hx
    cases hx
    exact nfp
theorem lc_hot {X : Cx} {pins : List (Addr × Obj)} {s : Shared} {σ : L2.St} {H : Hp} {Q : VK} {elt tg iter : Expr} {ifs : List Expr} {scope : Scope} {own : List (Str × Nat)} {pos pos' : Pos} {wi : TI} {g : TG} {tt : TT} {te : TE} {use : Option (Value → Sem Unit)} {Qf : Value → Shared → Prop}
    (hot : HotC X) (ndN : X.N.Nodup) (I : Inv X pins σ H s) (hi : PIX X tg iter wi) (ok : BlkOk X.N X.env.scope scope own)
    (hg : ∀ (s : Shared) (H : Hp) (C : Addr) (cl : List (Str × Addr)) (fp : List Addr), HotB (X.blk s H scope (compEnvC scope cl C X.env) fp) → PG (X.blk s H scope (compEnvC scope cl C X.env) fp) tg g)
    (ht : ∀ (s : Shared) (H : Hp) (C : Addr) (cl : List (Str × Addr)) (fp : List Addr), HotB (X.blk s H scope (compEnvC scope cl C X.env) fp) → PTs (X.blk s H scope (compEnvC scope cl C X.env) fp) ifs tt)
    (he : ∀ (s : Shared) (H : Hp) (C : Addr) (cl : List (Str × Addr)) (fp : List Addr), HotB (X.blk s H scope (compEnvC scope cl C X.env) fp) → PE (X.blk s H scope (compEnvC scope cl C X.env) fp) elt te) (hs : ∀ x, foldedSetIterable iter X.env x = pure x)
    (h : tLc wi g tt te (own.map (·.2)) σ H Q)
    (last : ∀ D C s' m H', Inv X pins σ H' s' → Q (.ref D) H' → s'.heap.Ns C m → FpOk X pins H' C → lcPost X use Qf D C (.ok .next) s') :
    wpAny (model X.prog X.w) X.A (comprehension (.ListComp elt [⟨tg, iter, ifs, 0⟩] scope pos) scope X.env pos' (newList []) false (eval iter X.env) use) Qf X.xe s := by
  have frees : ∀ y ∈ scope.names, y.2 = .free → ∃ c, X.env.cells.lookup y.1 = some c := fun y hy e => (ok.free y hy e).elim (fun k => I.ok.has _ (.inl k)) (fun k => I.ok.has _ (.inr k))
  refine wpAny_comprehension_free (use := use) rfl hs (closure_ok frees) ok.kind (fun y hy e => by rw [ok.uniq y hy, e]) (thn (hi.run pins s σ H _ I h) fun xv s1 hx => thn hx fun itv s2 h2 => ?_)
  obtain ⟨it, fp, tn, J, H2, e, I2, T, st2, f2, q⟩ := h2
  subst e
  refine wpAny_newObj_type (newEnv_comp ?_) (by show 0 ≤ sizeLine; decide)
  generalize eD : s2.heap.objs.size = D
  obtain ⟨W, ⟨m0, w0⟩, turn⟩ := q D (I2.hok.fresh (Nat.le_of_eq eD))
  generalize e3 : ({ s2 with heap := s2.heap.push { cls := .type "list", data := .seq ([] : List Value).toArray } } : Shared) = s3
  have h3 : s3.heap = s2.heap.push { cls := .type "list", data := .seq ([] : List Value).toArray } := by rw [← e3]
  have I3 : Inv X pins σ (upd H2 D (.lst [])) s3 := by
    rw [← e3]
    refine I2.laid (t' := s2.toks) (fun b o e => Heap.get?_push_of_some _ e) (Nat.le_of_eq eD) ⟨Nat.zero_le _, [], 0, .nil, ?_⟩
    rw [← eD]; exact Heap.get?_push_size _ rfl
  have f3 : ∀ b ∈ fp, FpOk X pins (upd H2 D (.lst [])) b ∧ b < s3.heap.objs.size := fun b hb => by
    obtain ⟨o, eo, _⟩ := T.obj _ _ st2 b hb
    have lt2 := Heap.lt_size eo
    refine ⟨⟨?_, (f2 b hb).2⟩, by rw [h3, Heap.size_push]; exact Nat.lt_succ_of_lt lt2⟩
    rw [upd_ne (by rw [← eD]; exact Nat.ne_of_lt lt2)]; exact (f2 b hb).1
  have st3 : tn 0 s3.heap := T.keep _ _ _ st2 fun b _ o e => by rw [h3]; exact Heap.get?_push_of_some _ e
  have I4 := block_start I3 ok ndN f3
  have hotp := fun cenv => hot_blk (scope := scope) (cenv := cenv) hot I3 fun b hb => (f3 b hb).1
  have pg := hg s3 (upd H2 D (.lst [])) s3.heap.objs.size (cellsFrom (s3.heap.objs.size + 1) scope.names (cloFrom X.env.cells scope.names [])) fp (hotp _).1
  have pt := ht s3 (upd H2 D (.lst [])) s3.heap.objs.size (cellsFrom (s3.heap.objs.size + 1) scope.names (cloFrom X.env.cells scope.names [])) fp (hotp _).1
  have pe := he s3 (upd H2 D (.lst [])) s3.heap.objs.size (cellsFrom (s3.heap.objs.size + 1) scope.names (cloFrom X.env.cells scope.names [])) fp (hotp _).1
  have hb4 := (hotp (compEnvC scope (cellsFrom (s3.heap.objs.size + 1) scope.names (cloFrom X.env.cells scope.names [])) s3.heap.objs.size X.env)).1
  have hx4 := (hotp X.env).2
  show codeAny _ _ (.compStart (.ListComp elt [⟨tg, iter, ifs, 0⟩] scope pos) 0 (.ref it) (.ref D) (compEnvC scope (cellsFrom (s3.heap.objs.size + 1) scope.names (cloFrom X.env.cells scope.names [])) s3.heap.objs.size X.env)) (lcPost X use Qf D s3.heap.objs.size) { s3 with heap := pushCells (s3.heap.push { cls := .type "dict", data := .dict #[] }) scope.names }
  have nfp : ∀ b ∈ fp, (upd H2 D (.lst [])) b = none := fun b hb => (f3 b hb).1.1
  generalize hce : compEnvC scope (cellsFrom (s3.heap.objs.size + 1) scope.names (cloFrom X.env.cells scope.names [])) s3.heap.objs.size X.env = ce at I4 pg pt pe hb4 ⊢
  have cL : ce.locals = s3.heap.objs.size := by subst hce; rfl
  generalize hH3 : upd H2 D (.lst []) = H3 at I3 I4 pg pt pe w0 nfp f3 hb4
  generalize hs4 : ({ s3 with heap := pushCells (s3.heap.push { cls := .type "dict", data := .dict #[] }) scope.names } : Shared) = s4 at I4 ⊢
  have st4 : tn 0 s4.heap := T.keep _ _ _ st3 fun b _ o e => by rw [← hs4]; exact pushCells_keeps _ _ _ _ (Heap.get?_push_of_some _ e)
  have stat : ∀ {σ' : L2.St} {H' : Hp} {s' : Shared}, Inv (X.blk s3 H3 scope ce fp) [] σ' H' s' → (∀ b ∈ fp, H' b = none) → ∀ b ∈ fp, FpOk (X.blk s3 H3 scope ce fp) [] H' b := fun {σ' H' s'} J hn b hb =>
    ⟨hn b hb, (J.ok.exf b hb).1, J.ok.exfs b hb, .inl hb, fun x c e => (J.ok.exf b hb).2 x c e, fun p hp => absurd (show p ∈ ([] : List (Addr × Obj)) ++ [] from hp) (by simp)⟩
  have loop : codeAny (model X.prog X.w) X.A (.compLoop (.ListComp elt [⟨tg, iter, ifs, 0⟩] scope pos) 0 (.ref it) (.ref D) ce) (lcPost X use Qf D s3.heap.objs.size) s4 := by
    refine compLoop_any (fun n s' => ∃ i H', Inv (X.blk s3 H3 scope ce fp) [] (wipe σ (own.map (·.2))) H' s' ∧ tn i s'.heap ∧ (∀ b ∈ fp, H' b = none) ∧ W i n H') ?_ m0 ⟨0, H3, I4, st4, nfp, w0⟩
    rintro n s5 ⟨i, H5, I5, st5, n5, w5⟩
    rcases turn i n H5 w5 with ⟨stop, qq⟩ | ⟨go, Nx, hNx, step⟩
    · refine thnF (T.done (X.blk s3 H3 scope ce fp) rfl rfl rfl hb4 hx4 i [] s5 _ H5 (fun _ _ => False) I5 (stat I5 n5) st5 stop) fun r s6 ⟨hr, I6⟩ => ?_
      subst hr
      have I7 : Inv X pins σ H5 s6 := I3.call' (ch := fp) I6.os I6.base I6.hok I6.bare fun b hb => ⟨(f3 b hb).1.2.2.2.1, (f3 b hb).1.2.1, (f3 b hb).1.2.2.2.2.1, (f3 b hb).1.2.2.2.2.2⟩
      have nC : H5 s3.heap.objs.size = none := by
        have z : H5 ce.locals = none := I6.free
        rwa [cL] at z
      obtain ⟨m, hn, _⟩ := I6.loc
      have hn : s6.heap.Ns ce.locals m := hn
      rw [cL] at hn
      exact last D s3.heap.objs.size s6 m H5 I7 qq hn (I3.fpOk (Nat.le_refl _) nC)
    · refine thnF (T.item (X.blk s3 H3 scope ce fp) rfl rfl rfl hb4 hx4 i [] s5 _ H5 (fun _ _ => False) I5 (stat I5 n5) st5 go) fun r s6 ⟨u, hr, h6⟩ => ?_
      subst hr
      refine thnF h6 fun _ s7 ⟨x, H7, I7, r7, y7, st7, n7⟩ => ?_
      refine thnF (pg.run _ s7 _ H7 x u _ (I7.pinned (stat I7 n7) (T.obj _ _ st7)) r7 (step x H7 y7)) fun _ s8 ⟨σ8, H8, I8, hw8, q8⟩ => ?_
      refine thnF (pt.run _ s8 σ8 H8 _ I8 q8) fun b s9 ⟨H9, I9, q9⟩ => ?_
      have fin : ∀ {s' : Shared} {H' : Hp}, Inv (X.blk s3 H3 scope ce fp) ([] ++ pinsAt fp s7.heap) σ8 H' s' → Nx H' → ∃ m, m < n ∧ ∃ i H', Inv (X.blk s3 H3 scope ce fp) [] (wipe σ (own.map (·.2))) H' s' ∧ tn i s'.heap ∧ (∀ b ∈ fp, H' b = none) ∧ W i m H' := fun {s' H'} J nx => by
        obtain ⟨m', hm, w'⟩ := hNx H' nx
        have pinz : ∀ b ∈ fp, ∀ o, s7.heap.get? b = some o → s'.heap.get? b = some o ∧ H' b = none := fun b hb o e =>
          let z := J.pin (b, o) (List.mem_append_right _ (List.mem_append_right _ (mem_pinsAt hb e)))
          ⟨z.1, z.2.1⟩
        have hl : (wipe σ (own.map (·.2))).length = σ8.length := by rw [← hw8, wipe_length]
        refine ⟨m', hm, i + 1, H', (J.unpinned (pins := [])).weak hl (fun j v e => by rw [← hw8] at e; exact (wipe_some e).1), T.keep _ _ _ st7 fun b hb o e => (pinz b hb o e).1, fun b hb => ?_, w'⟩
        obtain ⟨o, e, _⟩ := T.obj _ _ st7 b hb
        exact (pinz b hb o e).2
      cases b with
      | false =>
        simp only [Bool.false_eq_true, if_false] at q9 ⊢
        exact fin I9 q9
      | true =>
        simp only [if_true] at q9 ⊢
        refine thnF (pe.run _ s9 σ8 H9 _ I9 q9) fun z s10 ⟨yv, H10, I10, r10, acc, hD10, hz10, nx⟩ => ?_
        exact app_ok (X := X.blk s3 H3 scope ce fp) I10 hD10 hz10 r10 fun s11 I11 => fin I11 nx
  exact codeAny_compStart_list loop (T.self X.A 0 _ _ _ st4 loop)
theorem pe_lcH {X : Cx} {elt tg iter : Expr} {ifs : List Expr} {scope : Scope} {own : List (Str × Nat)} {pos : Pos} {wi : TI} {g : TG} {tt : TT} {te : TE} (hot : HotC X) (ndN : X.N.Nodup) (hi : PIX X tg iter wi) (ok : BlkOk X.N X.env.scope scope own)
    (hg : ∀ (s : Shared) (H : Hp) (C : Addr) (cl : List (Str × Addr)) (fp : List Addr), HotB (X.blk s H scope (compEnvC scope cl C X.env) fp) → PG (X.blk s H scope (compEnvC scope cl C X.env) fp) tg g)
    (ht : ∀ (s : Shared) (H : Hp) (C : Addr) (cl : List (Str × Addr)) (fp : List Addr), HotB (X.blk s H scope (compEnvC scope cl C X.env) fp) → PTs (X.blk s H scope (compEnvC scope cl C X.env) fp) ifs tt)
    (he : ∀ (s : Shared) (H : Hp) (C : Addr) (cl : List (Str × Addr)) (fp : List Addr), HotB (X.blk s H scope (compEnvC scope cl C X.env) fp) → PE (X.blk s H scope (compEnvC scope cl C X.env) fp) elt te) (hs : ∀ x, foldedSetIterable iter X.env x = pure x) :
    PE X (.ListComp elt [⟨tg, iter, ifs, 0⟩] scope pos) (tLc wi g tt te (own.map (·.2))) := by
  refine ⟨fun pins s σ H Q I h => ?_⟩
  rw [eval_ListComp]
  refine lc_hot hot ndN I hi ok hg ht he hs h fun D C s' m H' J q hn f => ⟨m, hn, fun h'' sb => ?_⟩
  obtain ⟨f0, f1, f2, f3, f4, f5⟩ := f
  exact ⟨.ref D, H', J.turned (t' := s'.toks) (fun b o hb e => (sb.2 b hb).trans e) f0 f1 f3 f4 f5, rfl, q⟩
end DL
end

section
set_option Elab.async false
set_option linter.all false
set_option maxRecDepth 100000
set_option autoImplicit false
set_option maxHeartbeats 1000000
/-! DLH4: defs called with the handled exception; isinstance of it. -/
namespace DL
open PySem PySem.Spec PyProof.Rows L2 HotX L2H
/-- what a def promises while p's object is handled -/
structure FnHp (P : Program) (w : World) (K : PySem.W.Frag) (mg : Str → Option Value) (base : Heap) (CX : CXT) (k : Nat) (f : Addr) (fd : FuncData) (ps : List Str) (sp : Addr × Obj → Sp) : Prop where
  len : ∀ p vs H Q E, sp p vs H Q E → vs.length = ps.length
  run : ∀ (A : Around) (outer : List Env) (s : Shared) (H : Hp) (args : Args) (us : List Value) (vs : List V) (Q : VK) (E : XK) (p : Addr × Obj), RoomH k A → Hot1 A p → PinOk outer H s p → Env0 P w K mg base A outer s H → BindsTo s fd args (ps.zip us) → Vals vs us → sp p vs H Q E →
    codeAny (model P w) A (.call (.ref f) args) (CR CX outer P w H s Q E) s
theorem fn_hot {CX : CXT} {P : Program} {w : World} {K : PySem.W.Frag} {mg : Str → Option Value} {base : Heap} {k : Nat} {f : Addr} {x qual : Str} {params : Arguments} {body : List Stmt} {scope : Scope} {fd : FuncData} {N ps : List Str} {sp : Addr × Obj → Sp}
    (F : FunD K x qual params body scope [] [] f fd) (S : FnScope N ps scope) (len : ∀ p vs H Q E, sp p vs H Q E → vs.length = ps.length)
    (hb : ∀ (cdv : Value) (A : Around) (outer : List Env) (s : Shared) (H : Hp) (vs : List V) (Q : VK) (E : XK) (p : Addr × Obj), Hot1 A p → RoomH k (A.deeper (envOfC qual scope s.heap.objs.size f cdv)) → PinOk outer H s p → sp p vs H Q E →
      ∃ t, PSs (cxH CX P w K mg base N qual scope f cdv A outer s H E p) body t ∧ t { nx := fun _ H' => Q .non H', rt := Q } (L2.start N vs) H) : FnHp P w K mg base CX (k + 1) f fd ps sp := by
  obtain ⟨oc, od, dV, kV, doc, pm, an, cdv, ct, osl, rfl, lk, hcd, _, _⟩ := F.ex
  refine ⟨len, fun A outer s H args us vs Q E p hr hot pin e0 bi r hsp => ?_⟩
  have hl := len _ _ _ _ _ hsp
  have KX : K.In s.heap := e0.mod.kin.keeps fun b o e => (e0.bs b o e).1
  have lim : s.heap.NoLimit := e0.mod.nolimit.keeps fun b o e => (e0.bs b o e).1
  have kinds : ∀ y ∈ ps.zip us, scope.names.lookup y.1 = some .local ∨ (scope.names.lookup y.1 = some .cell ∧ ((cellsFrom (s.heap.objs.size + 1) scope.names []).lookup y.1).isSome = true) := fun ⟨n, v⟩ hy =>
    (S.par n (List.of_mem_zip hy).1).elim .inl fun q => .inr ⟨q, PySem.W.cellsFrom_some _ _ _ (.inl q)⟩
  refine codeAny_call_function hr.depth (KX _ _ lk) rfl S.co S.gen rfl (PySem.W.codeRec_of KX hcd) (bi _ _ _ _ ?_)
  refine wpAny_newFunctionEnv_cells S.kind kinds fun env he s1 x => ?_
  subst he
  refine ⟨lim.keeps x.toInCall.keep, codeAny_func ?_⟩
  obtain ⟨t, ht, hq⟩ := hb cdv A outer s H vs Q E p hot (hr.deeper _) pin hsp
  have I : Inv (cxH CX P w K mg base N qual scope f cdv A outer s H E p) [] (L2.start N vs) H s1 := inv_startH S pin e0 hl r x
  refine wpAny_mono (ht.run [] s1 (L2.start N vs) H _ I hq) (fun fl s' hs => ?_) fun e s' hs => hs
  have fin : ∀ {σ' : L2.St} {H' : Hp} {v : V} {u : Value}, Inv (cxH CX P w K mg base N qual scope f cdv A outer s H E p) [] σ' H' s' → RelV v u → Q v H' → CE outer P w H s Q u s' :=
    fun {σ' H' v u} J rv q => ⟨v, H', J.os, J.bare, J.base, J.hok, rv, q⟩
  cases fl with
  | ret u => obtain ⟨v, σ', H', J, rv, q⟩ := hs; exact fin J rv q
  | next => obtain ⟨σ', H', J, q⟩ := hs; exact fin (v := V.non) (u := Value.none) J rfl q
  | brk => obtain ⟨_, _, _, q⟩ := hs; exact False.elim q
  | cont => obtain ⟨_, _, _, q⟩ := hs; exact False.elim q
theorem pe_hot {X : Cx} {CX : CXT} {k : Nat} {f : Addr} {fd : FuncData} {ps : List Str} {sp : Addr × Obj → Sp} {E : L2.St → XK} {x : Str} {q pos : Pos} {e : Expr} {es : List Expr} {t : TA} {p : Addr × Obj}
    (F : FnHp X.prog X.w X.K X.mg X.base CX k f fd ps sp) (hr : RoomH k X.A) (hot : Hot1 X.A p) (hp : p ∈ X.pn) (hg : Gl X x) (hm : X.mg x = some (.ref f)) (hk : PySem.W.keepIn X.K (.ref f) = true) (bi : Binds X.K fd ps []) (hx : ∀ σ, PassesAt CX X σ (E σ))
    (ha : PA X (e :: es) t) (hdb : (x == ("__debug__" : Str)) = false) (he : starEach (e :: es) X.env = (false, eval e X.env) :: starEach es X.env) (hpl : (backTo pos (starEach es X.env)).any (·.1) = false) :
    PE X (.Call (.Name x q) (e :: es) [] pos) (tCallS (sp p) E t) := by
  refine ⟨fun pins s σ H Q I h => ?_⟩
  refine wpAny_Call_Name_kw (ld_glob I hg hm ?_ hdb)
  refine PySem.W.callWith_K (h₀ := X.base) I.ok.mod.kin hk (thn (ha.run pos pins s σ H _ I h) fun us s1 ⟨vs, H1, I1, r, q⟩ => ⟨I1.kIn, ?_⟩) he hpl
  have lu : us.length = ps.length := by rw [← r.length]; exact F.len _ _ _ _ _ q
  have b := bi s1 us I1.kIn (by rw [List.append_nil]; exact lu)
  rw [List.append_nil] at b
  have P1 := I1.pin p (List.mem_append_left _ hp)
  have pin : PinOk X.stack H1 s1 p := ⟨P1.1, P1.2.1, fun hm => (List.mem_cons.mp (I1.stkSub p.1 hm)).elim P1.2.2.1 P1.2.2.2.1, P1.2.2.2.2⟩
  refine wpAny_call (codeAny_mono (F.run X.A X.stack s1 H1 ⟨us, []⟩ us vs Q (E σ) p hr hot pin I1.env0 b r q) fun r s' hq => ?_)
  cases r with
  | error e => exact hx σ pins H1 s1 e s' I1 hq
  | ok fl =>
    cases fl with
    | ret u => exact I1.after hq
    | next => exact False.elim hq
    | brk => exact False.elim hq
    | cont => exact False.elim hq
end DL
namespace PySem.W
open PySem PySem.Spec PySem.Calls PyProof.Rows
section
variable {prog : Program} {w : World} {A : Around} {E : Value → Shared → Prop} {s : Shared} {K : Frag} {x D : Addr} {ox : Obj}
theorem findObj_dataO {C : Addr} {name : Str} {a g : Value} (od : Option Obj) (hc : (clsIn K C).isSome = true) (ha : findIn K (.ref C) name = some (some a)) (hg : specialIn K a "__get__" = some (some g)) (ht : takesIn K a = some true) : findObj K C od name = some (.bind g a) := by
  obtain ⟨cd, hc⟩ := Option.isSome_iff_exists.mp hc
  unfold findObj
  rw [hc, Option.bind_some, ha, Option.bind_some]
  simp [hg, ht]
theorem kin_classX {Q : Option Value → Shared → Prop} {od : Option Obj} (T : L2.ExcC K D) (KX : K.In s.heap) (I : InstAt s.heap x ox D od) (h : Q (some (.ref D)) { s with toks := s.toks + 1 }) : wpAny (model prog w) A (getAttr? (.ref x) "__class__") Q E s := by
  have hf : findObj K D od "__class__" = some (.bind (.builtin "getset_descriptor.__get__") (.builtin "object.__class__")) := findObj_dataO od (by obtain ⟨cd, hc, _⟩ := any_some T.hd; rw [hc]; rfl) T.ha T.hn T.ht
  obtain ⟨hp, g, d, t, os⟩ := s
  have L0 := I.type (M := model prog w)
  have L1 := looks_findIn (M := model prog w) KX T.hg
  have L2 := looks_findIn (M := model prog w) KX T.hk
  have L3 := looks_find (M := model prog w) KX I hf
  have sub : Looks (model prog w) hp (isInstance (.ref x) (.type "BaseException")) true := L0.andThen (looks_subIn KX T.hs)
  have z0 : (false && onTheHeap (Value.builtin "BaseException.__getattribute__")) = false := rfl
  have z2 : (Value.builtin "BaseException.__getattribute__" == Value.builtin "object.__getattribute__") = false := by decide +kernel
  have z1 : (onTheHeap (Value.ref D) && Value.builtin "BaseException.__getattribute__" == Value.builtin "object.__getattribute__") = false := by rw [z2]; rfl
  unfold getAttr? getAttrBy? getAttrBy
  refine wpAny_bind (wpAny_mkText (wpAny_bind (wpAny_attempt (wpAny_holding (wpAny_bind (L0.at (wpAny_bind (L1.at ?_))))))))
  show wpAny _ _ (if (onTheHeap (Value.ref D) && Value.builtin "BaseException.__getattribute__" == Value.builtin "object.__getattribute__") = true then _ else _) _ _ _
  rw [z1, if_neg Bool.false_ne_true]
  unfold getAttrByItsOwn hookBefore
  refine wpAny_bind ?_
  rw [if_pos (show onTheHeap (Value.ref D) = true from rfl)]
  refine L2.at (wpAny_bind (wpAny_attempt (wpAny_holding ?_)))
  unfold callGetattribute
  rw [z0, if_neg Bool.false_ne_true]
  unfold boundAndCalled
  rw [PySem.F.excAttr_ValueError.ga.bind (.ref x)]
  refine wpAny_bind (wpAny_pure ?_)
  show wpAny _ _ (call (.builtin "BaseException.__getattribute__") [.ref x, .str "__class__" t]) _ _ _
  refine wpAny_call (codeAny_call_builtin PySem.F.excAttr_ValueError.ga.plain PySem.F.entry_bexc_ga ?_)
  refine @check_slot (model prog w) _ _ ⟨hp, g, d, t + 1, os⟩ "BaseException.__getattribute__" "BaseException" "__getattribute__" (.ref x) [.str "__class__" t] [] _ (by decide +kernel) (by decide +kernel) sub (PySem.F.args_bexc_ga (.ref x) (.str "__class__" t)) ?_
  unfold Builtin.«object.__getattribute__»
  refine wpAny_bind (wpAny_of_eq (a := ((Value.ref x : Value), [Value.str "__class__" t])) (by first | rfl | (simp only [slotArgs]; rfl)) ?_)
  refine wpAny_bind (wpAny_pure (wpAny_bind (L0.at (wpAny_bind (L3.at ?_)))))
  show wpAny _ _ (holding [Value.builtin "object.__class__"] (call (.builtin "getset_descriptor.__get__") [.builtin "object.__class__", .ref x, .ref D]) >>= ret) _ _ _
  refine wpAny_bind (wpAny_holding (wpAny_call (class_get (s := ⟨hp, g, d, t + 1, os⟩) (ox := ox) (od := od) KX I T.hm ?_)))
  refine wpAny_pure ?_
  show wpAny _ _ (handedOut (.ref D)) _ _ _
  rw [handedOut_of (v := .ref D) rfl]
  first
    | exact wpAny_pure (wpAny_pure h)
    | exact wpAny_pure h
    | exact wpAny_pure (wpAny_bind (wpAny_pure (wpAny_pure h)))
theorem kitX_exc (T : L2.ExcC K D) : KitX K (.ref x) (.ref D) (fun h => ∃ od, InstAt h x ox D od) where
  ty := fun _ _ _ ⟨_, I⟩ => I.type
  it := fun _ _ KX _ => by
    obtain ⟨cdD, hcD, _⟩ := any_some T.hd
    unfold clsIn at hcD
    split at hcD
    · rename_i c' d' cd' sl' ho
      intro A' Q' E' s' k q
      unfold isType loadHead
      exact wpAny_bind (wpAny_loadPart (k _ _ (KX _ _ ho)) (wpAny_pure q))
    · cases hcD
  ne := fun h tp dd its n sl KX htp => by
    obtain ⟨cdD, hcD, _⟩ := any_some T.hd
    refine Bool.eq_false_iff.mpr fun q => ?_
    have e : D = tp := Value.ref.inj (beq_iff_eq.mp q)
    subst e
    unfold clsIn at hcD
    split at hcD
    · rename_i c' d' cd' sl' ho
      have z := (KX _ _ ho).symm.trans htp
      cases z
    · cases hcD
  ca := fun KX ⟨_, I⟩ k => kin_classX T KX I k
end
end PySem.W
namespace DL
open PySem PySem.Spec PyProof.Rows L2 HotX L2H
section
variable {X : Cx} {a D Cy : Addr} {oe : Obj} {d : Option Addr} {p1 p2 p3 p4 : Pos} {x y : Str} {b : Bool} {i : Nat}
theorem inst_at {pins : List (Addr × Obj)} {σ : L2.St} {H : Hp} {s : Shared} (hp : (a, oe) ∈ X.pn) (h1 : oe.cls = .ref D) (h2 : oe.dict = d) (hf : ∃ vs, oe.data = .fields vs) (I : Inv X pins σ H s) (hd : DicOk d H) : ∃ od, PySem.W.InstAt s.heap a oe D od := by
  obtain ⟨hget, _⟩ := I.pin (a, oe) (List.mem_append_left _ hp)
  obtain ⟨vs, hv⟩ := hf
  rcases hd with rfl | ⟨dd, fs, rfl, hx⟩
  · exact ⟨none, hget, h1, by unfold PySem.W.notCls; rw [hv] <;> rfl, by rw [h2]; trivial⟩
  · have ho : ObjOk X.prog X.w H s.heap dd (.xd fs) := I.hok dd _ hx
    obtain ⟨mA, hns, hr⟩ := ho
    obtain ⟨od, ho, hl⟩ := lookIn_ns hns
    exact ⟨some od, hget, h1, by unfold PySem.W.notCls; rw [hv] <;> rfl, by rw [h2]; exact ho⟩
/-- isinstance(x, C), x the handled exception -/
theorem pe_isX (T : ExcC X.K D) (hp : (a, oe) ∈ X.pn) (h1 : oe.cls = .ref D) (h2 : oe.dict = d) (hf : ∃ vs, oe.data = .fields vs) (hg : Gl X "isinstance") (hm : X.mg "isinstance" = none) (hN : X.N[i]? = some x) (hv : Vis X.env.scope x) (hx : okN x = true)
    (gy : Gl X y) (my : X.mg y = some (.ref Cy)) (dy : (y == ("__debug__" : Str)) = false) (hk : PySem.W.kitOne X.K (.ref D) (.ref Cy) = some b) :
    PE X (.Call (.Name "isinstance" p1) [.Name x p2, .Name y p3] [] p4) (fun σ H Q => σ[i]? = some (some (.ref a)) ∧ DicOk d H ∧ Q (.bl b) H) := by
  obtain ⟨d1, c1⟩ := okN_d hx
  refine PE.imp (pe_callB (r := fun xs H Q => xs = [.ref a, .ref Cy] ∧ DicOk d H ∧ Q (.bl b) H) (fun pins s σ H xs us Q I r h => ?_) hg hm PyProof.Rows.boot_isinstance (pa_cons (pe_var (i := i) hN hv d1 c1) (pa_cons (pe_glob (v := .ref Cy) gy my rfl dy) pa_nil)) (by decide) (by decide)) fun σ H Q ⟨q1, q2, q3⟩ => ?_
  · obtain ⟨rfl, hd, q⟩ := h
    cases r with
    | cons rx rr =>
      cases rr with
      | cons rt rr =>
        cases rr
        cases rx
        cases rt
        exact PySem.W.kia_one (PySem.W.kitX_exc T) I.kIn (inst_at hp h1 h2 hf I hd) hk (fun z => nomatch z) fun tk => ⟨.bl b, H, I.kept (t' := tk) fun _ _ z => z, rfl, q⟩
  · exact ⟨.ref a, q1, rfl, q2, q3⟩
end
end DL
end

section
set_option Elab.async false
set_option linter.all false
set_option maxRecDepth 100000
set_option autoImplicit false
set_option maxHeartbeats 1000000
/-! DLH5: the law's own telling of an exception's class. -/
namespace DL
open PySem PySem.Spec PyProof.Rows L2 HotX L2H
def kindBody (p : Nat → Pos) : List Stmt := [ (.Assign (targets := [(.Name "_law_some" (p 0))]) (value := (.List (elts := [ (.Call (func := (.Name "isinstance" (p 1))) (args := [(.Name "_law_e" (p 2)), (.Name "NoRule" (p 3))]) (keywords := []) (pos := (p 4))), (.Call (func := (.Name "isinstance" (p 5))) (args := [(.Name "_law_e" (p 6)), (.Name "NoSenses" (p 7))]) (keywords := []) (pos := (p 8))), (.Call (func := (.Name "isinstance" (p 9))) (args := [(.Name "_law_e" (p 10)), (.Name "NoState" (p 11))]) (keywords := []) (pos := (p 12))), (.Call (func := (.Name "isinstance" (p 13))) (args := [(.Name "_law_e" (p 14)), (.Name "NoBounds" (p 15))]) (keywords := []) (pos := (p 16)))]) (pos := (p 17)))) (pos := (p 18))), (.Assign (targets := [(.Name "_law_some" (p 19))]) (value := (.BinOp (left := (.Name "_law_some" (p 20))) (op := .Add) (right := (.List (elts := [ (.Call (func := (.Name "isinstance" (p 21))) (args := [(.Name "_law_e" (p 22)), (.Name "NoPlace" (p 23))]) (keywords := []) (pos := (p 24))), (.Call (func := (.Name "isinstance" (p 25))) (args := [(.Name "_law_e" (p 26)), (.Name "NoRows" (p 27))]) (keywords := []) (pos := (p 28))), (.Call (func := (.Name "isinstance" (p 29))) (args := [(.Name "_law_e" (p 30)), (.Name "NoFirst" (p 31))]) (keywords := []) (pos := (p 32))), (.Call (func := (.Name "isinstance" (p 33))) (args := [(.Name "_law_e" (p 34)), (.Name "Unlike" (p 35))]) (keywords := []) (pos := (p 36)))]) (pos := (p 37)))) (pos := (p 38)))) (pos := (p 39))), (.Assign (targets := [(.Name "_law_words" (p 40))]) (value := (.List (elts := [ (.Constant (.str "NoRule") 0 (p 41)), (.Constant (.str "NoSenses") 0 (p 42)), (.Constant (.str "NoState") 0 (p 43)), (.Constant (.str "NoBounds") 0 (p 44)), (.Constant (.str "NoPlace") 0 (p 45)), (.Constant (.str "NoRows") 0 (p 46)), (.Constant (.str "NoFirst") 0 (p 47)), (.Constant (.str "Unlike") 0 (p 48)), (.Constant (.str "TooMany") 0 (p 49))]) (pos := (p 50)))) (pos := (p 51))), (.Return (value := (some (.Call (func := (.Attribute (value := (.Constant (.str "") 0 (p 52))) (attr := "join") (pos := (p 53)))) (args := [ (.ListComp (elt := (.Name "_law_word" (p 54))) (generators := [ { target := (.Tuple (elts := [(.Name "_law_word" (p 55)), (.Name "_law_good" (p 56))]) (k := 0) (pos := (p 57))), iter := (.Call (func := (.Name "zip" (p 58))) (args := [ (.Name "_law_words" (p 59)), (.BinOp (left := (.Name "_law_some" (p 60))) (op := .Add) (right := (.List (elts := [ (.Call (func := (.Name "isinstance" (p 61))) (args := [(.Name "_law_e" (p 62)), (.Name "TooMany" (p 63))]) (keywords := []) (pos := (p 64)))]) (pos := (p 65)))) (pos := (p 66)))]) (keywords := []) (pos := (p 67))), ifs := [(.Name "_law_good" (p 68))], is_async := 0 : PySem.Comprehension }]) (scope := { kind := .function, names := [ (".0", .local), ("_law_word", .local), ("_law_good", .local)], isGenerator := false, isCoroutine := false, more := [] : PySem.Scope }) (pos := (p 69)))]) (keywords := []) (pos := (p 70))))) (pos := (p 71)))]
def kindSc : Scope := { kind := .function, names := [ ("_law_e", .local), ("_law_some", .local), ("_law_words", .local), ("isinstance", .globalImplicit), ("NoRule", .globalImplicit), ("NoSenses", .globalImplicit), ("NoState", .globalImplicit), ("NoBounds", .globalImplicit), ("NoPlace", .globalImplicit), ("NoRows", .globalImplicit), ("NoFirst", .globalImplicit), ("Unlike", .globalImplicit), ("zip", .globalImplicit), ("TooMany", .globalImplicit)], isGenerator := false, isCoroutine := false, more := [ ("fast", (.str "_law_e")), ("fast", (.str "_law_some")), ("fast", (.str "_law_words")), ("fast", (.str "_law_word")), ("fast", (.str "_law_good"))] : PySem.Scope }

/-- what the head tells of the nine classes -/
structure ExAt (K : PySem.W.Frag) (mg : Str → Option Value) : Prop where
  ex : ∃ C : Str → Addr, (∀ x ∈ exNames, mg x = some (.ref (C x)) ∧ ExcC K (C x)) ∧ ∀ x ∈ exNames, ∀ y ∈ exNames, PySem.W.kitOne K (.ref (C x)) (.ref (C y)) = some (x == y)
/-- the word of the class x -/
def spKind (K : PySem.W.Frag) (C : Str → Addr) (p : Addr × Obj) : Sp := fun vs H Q _ => vs = [.ref p.1] ∧ ∃ x ∈ exNames, p.2.cls = .ref (C x) ∧ DicOk p.2.dict H ∧ ∀ H', ExtH H H' → Q (.str x) H'
def kindN : List Str := ["_law_e", "_law_some", "_law_words", "_law_word", "_law_good"]
def kindBlk : Scope := { kind := .function, names := [(".0", .local), ("_law_word", .local), ("_law_good", .local)], isGenerator := false, isCoroutine := false, more := [] }
def sel : List Str → List Bool → List Str
  | w :: r, true :: q => w :: sel r q
  | _ :: r, false :: q => sel r q
  | _, _ => []
theorem sel_take : ∀ (ws : List Str) (bs : List Bool) (i : Nat) (w : Str) (b : Bool), ws[i]? = some w → bs[i]? = some b → sel (ws.take (i + 1)) (bs.take (i + 1)) = sel (ws.take i) (bs.take i) ++ (if b = true then [w] else [])
  | w' :: r, b' :: q, 0, w, b, h1, h2 => by
    simp at h1 h2; subst h1 h2
    cases b' <;> simp [sel]
  | w' :: r, b' :: q, i + 1, w, b, h1, h2 => by
    have ih := sel_take r q i w b (by simpa using h1) (by simpa using h2)
    cases b' <;> simp [sel, ih]
  | [], _, _, _, _, h1, _ => by simp at h1
  | _ :: _, [], _, _, _, _, h2 => by simp at h2
theorem sel_len : ∀ (ws : List Str) (bs : List Bool), (sel ws bs).length ≤ ws.length
  | [], _ => by simp [sel]
  | _ :: _, [] => by simp [sel]
  | w :: r, true :: q => by simpa [sel] using sel_len r q
  | w :: r, false :: q => by have := sel_len r q; simp [sel]; omega
section
variable {K : PySem.W.Frag}
/-- the comprehension over words and truths -/
theorem lc_kind {a b : Addr} {ws : List Str} {bs : List Bool} {H1 : Hp} {D : Addr} {Qd : Hp → Prop} {σ : L2.St} (hσ : ∃ v0 v1 v2, σ = [v0, v1, v2, none, none]) (ha : H1 a = some (.lst (ws.map V.str))) (hb : H1 b = some (.lst (bs.map V.bl))) (hl : ws.length = bs.length) (hz : ws.length ≤ 100) (hD : H1 D = none)
    (q : ∀ H', ExtH H1 H' → H' D = some (.lst ((sel ws bs).map V.str)) → Qd H') :
    ∃ W : Nat → Nat → Hp → Prop, (∃ m, W 0 m (upd H1 D (.lst []))) ∧ ∀ i m H, W i m H →
      ((ItzA true true K a b).stop i H ∧ Qd H) ∨ ((ItzA true true K a b).go i H ∧ ∃ Nx : Hp → Prop, (∀ H', Nx H' → ∃ m', m' < m ∧ W (i + 1) m' H') ∧ ∀ x H', (ItzA true true K a b).yld i H x H' →
        gTup K 2 (gCons (gName 3) (gCons (gName 4) gNil)) x (wipe σ [3, 4]) H' fun σ2 H2 => wipe σ2 [3, 4] = wipe σ [3, 4] ∧ tB (tVar 4) σ2 H2 fun c H3 =>
          if c = true then tVar 3 σ2 H3 fun y H4 => ∃ acc, H4 D = some (.lst acc) ∧ acc.length < sizeLine ∧ Nx (upd H4 D (.lst (acc ++ [y]))) else Nx H3) := by
  obtain ⟨v0, v1, v2, rfl⟩ := hσ
  refine ⟨fun i m H => m = ws.length - i ∧ i ≤ ws.length ∧ ExtH H1 H ∧ H D = some (.lst ((sel (ws.take i) (bs.take i)).map V.str)), ⟨ws.length, by simp, Nat.zero_le _, (ExtH.refl H1).push hD, by rw [upd_same]; simp [sel]⟩, ?_⟩
  rintro i m H ⟨rfl, hi, he, hd⟩
  have qa : SqA true K H a (ws.map V.str) := .inl (.inl (he _ _ ha))
  have qb : SqA true K H b (bs.map V.bl) := .inl (.inl (he _ _ hb))
  by_cases hlt : i < ws.length
  · have hlt2 : i < bs.length := by omega
    refine .inr ⟨⟨_, _, V.str ws[i], V.bl bs[i], qa, qb, by simp [hlt], by simp [hlt2]⟩, fun H' => ExtH H1 H' ∧ H' D = some (.lst ((sel (ws.take (i + 1)) (bs.take (i + 1))).map V.str)), fun H' ⟨p1, p2⟩ => ⟨ws.length - (i + 1), by omega, rfl, hlt, p1, p2⟩, ?_⟩
    rintro v H' ⟨T, x, y, rfl, hT, rfl, hx, hy⟩
    have ex : x = V.str ws[i] := by
      have := hx _ qa
      rw [List.getElem?_map, List.getElem?_eq_getElem hlt] at this
      exact (Option.some.inj this).symm
    have ey : y = V.bl bs[i] := by
      have := hy _ qb
      rw [List.getElem?_map, List.getElem?_eq_getElem hlt2] at this
      exact (Option.some.inj this).symm
    subst ex ey
    have hTD : D ≠ T := ne_of_none hd hT
    have e2 : ExtH H1 (upd H T (.tup [V.str ws[i], V.bl bs[i]])) := he.push hT
    have d2 : upd H T (.tup [V.str ws[i], V.bl bs[i]]) D = some (.lst ((sel (ws.take i) (bs.take i)).map V.str)) := by rw [upd_ne hTD]; exact hd
    have st := sel_take ws bs i ws[i] bs[i] (List.getElem?_eq_getElem hlt) (List.getElem?_eq_getElem hlt2)
    refine ⟨T, [V.str ws[i], V.bl bs[i]], rfl, .inl (.inl upd_same), rfl, V.str ws[i], _, rfl, V.bl bs[i], _, rfl, rfl, rfl, ?_⟩
    refine ⟨V.bl bs[i], rfl, bs[i], rfl, ?_⟩
    cases hb2 : bs[i] with
    | false =>
      rw [hb2] at st
      rw [if_neg (by decide)]
      rw [hb2] at e2 d2
      refine ⟨e2, ?_⟩
      rw [d2, st]; simp
    | true =>
      rw [hb2] at st
      rw [if_pos rfl]
      rw [hb2] at e2 d2
      refine ⟨V.str ws[i], rfl, _, d2, ?_, ?_, ?_⟩
      · rw [List.length_map]
        have := sel_len (ws.take i) (bs.take i)
        have h3 : (ws.take i).length ≤ 100 := by rw [List.length_take]; omega
        have h4 : (100 : Nat) < sizeLine := by decide
        omega
      · intro c o hc
        have h5 : c ≠ D := ne_of_none hc hD
        rw [upd_ne h5]; exact e2 c o hc
      · rw [upd_same, st]; simp
  · have e : i = ws.length := by omega
    subst e
    refine .inl ⟨⟨_, _, qa, qb, by simp; omega⟩, q H he ?_⟩
    rw [hd, List.take_of_length_le (Nat.le_refl _), List.take_of_length_le (by omega)]
end
end DL
end

section
set_option Elab.async false
set_option linter.all false
set_option maxRecDepth 100000
set_option autoImplicit false
set_option maxHeartbeats 1000000
/-! DLH6: the promise of the law's own telling of an exception's class. -/
namespace DL
open PySem PySem.Spec PyProof.Rows L2 HotX L2H
theorem sel_words : ∀ x ∈ exNames, Txt.join "" (sel exNames (exNames.map fun y => x == y)) = x ∧ ((sel exNames (exNames.map fun y => x == y)).map (·.length)).sum + (sel exNames (exNames.map fun y => x == y)).length * (("" : Str).length) ≤ 16777216 := by
  intro x hx
  simp only [exNames, List.mem_cons, List.not_mem_nil, or_false] at hx
  rcases hx with h | h | h | h | h | h | h | h | h <;> subst h <;> decide +kernel
theorem kind_ok {P : Program} {w : World} {K : PySem.W.Frag} {mg : Str → Option Value} {base : Heap} {params : Arguments} {fk : Addr} {fd : FuncData} {p : Nat → Pos} {C : Str → Addr} (F : FunD K "_law_kind" "_law_kind" params (kindBody p) kindSc [] [] fk fd) (S : FnScope kindN ["_law_e"] kindSc)
    (hC : ∀ x ∈ exNames, mg x = some (.ref (C x)) ∧ ExcC K (C x)) (hK : ∀ x ∈ exNames, ∀ y ∈ exNames, PySem.W.kitOne K (.ref (C x)) (.ref (C y)) = some (x == y)) (hi : mg ("isinstance" : Str) = none) (hz : mg ("zip" : Str) = none) (hl : ((p 53).endLine == (p 70).line) = true) :
    FnHp P w K mg base (L2N.CX P w) 1 fk fd ["_law_e"] (spKind K C) := by
  refine fn_hot F S (fun q vs H Q E h => by obtain ⟨rfl, _⟩ := h; rfl) fun cdv A outer s H vs Q E q hot hr pin hsp => ?_
  obtain ⟨rfl, x, hx, hcl, hd, hq⟩ := hsp
  obtain ⟨a, oe⟩ := q
  have hcl : oe.cls = .ref (C x) := hcl
  have hd : DicOk oe.dict H := hd
  have hf : ∃ vs, oe.data = .fields vs := by obtain ⟨_, vs, e, _⟩ := hot; exact ⟨vs, e⟩
  let X := cxH (L2N.CX P w) P w K mg base kindN "_law_kind" kindSc fk cdv A outer s H E (a, oe)
  have hp : (a, oe) ∈ X.pn := List.mem_singleton.mpr rfl
  have hc : HotC X := ⟨(a, oe), hot, hp⟩
  have isx : ∀ (y : Str) (p1 p2 p3 p4 : Pos), y ∈ exNames → kindSc.names.lookup y = some .globalImplicit → (y == ("__debug__" : Str)) = false →
      PE X (.Call (.Name "isinstance" p1) [.Name "_law_e" p2, .Name y p3] [] p4) (fun σ H Q => σ[0]? = some (some (.ref a)) ∧ DicOk oe.dict H ∧ Q (.bl (x == y)) H) := fun y p1 p2 p3 p4 hy hg hdb =>
    pe_isX (hC x hx).2 hp hcl rfl hf (show kindSc.names.lookup ("isinstance" : Str) = _ by rfl) hi (i := 0) rfl (.inl (by rfl)) (by rfl) hg (hC y hy).1 hdb (hK x hx y hy)
  have ok : BlkOk X.N X.env.scope kindBlk [("_law_word", 3), ("_law_good", 4)] := blkOk_by (by kernel_rfl)
  have nd : X.N.Nodup := S.nd
  have var : ∀ (i : Nat) (y : Str) (q : Pos), kindN[i]? = some y → kindSc.names.lookup y = some .local → okN y = true → PE X (.Name y q) (tVar i) := fun i y q h1 h2 h3 => pe_var (i := i) h1 (.inl h2) (okN_d h3).1 (okN_d h3).2
  refine ⟨_, pss_cons (ps_set (i := 1) nd rfl (.inl (by rfl)) (pe_lst (pa_cons (isx "NoRule" _ _ _ _ (by decide) (by rfl) (by decide)) (pa_cons (isx "NoSenses" _ _ _ _ (by decide) (by rfl) (by decide)) (pa_cons (isx "NoState" _ _ _ _ (by decide) (by rfl) (by decide)) (pa_cons (isx "NoBounds" _ _ _ _ (by decide) (by rfl) (by decide)) pa_nil))))) (by rfl) (.inr (by rfl)))
    (pss_cons (ps_set (i := 1) nd rfl (.inl (by rfl)) (pe_op op_cat (var 1 "_law_some" _ rfl (by rfl) (by rfl)) (pe_lst (pa_cons (isx "NoPlace" _ _ _ _ (by decide) (by rfl) (by decide)) (pa_cons (isx "NoRows" _ _ _ _ (by decide) (by rfl) (by decide)) (pa_cons (isx "NoFirst" _ _ _ _ (by decide) (by rfl) (by decide)) (pa_cons (isx "Unlike" _ _ _ _ (by decide) (by rfl) (by decide)) pa_nil)))))) (by rfl) (.inr (by rfl)))
    (pss_cons (ps_set (i := 2) nd rfl (.inl (by rfl)) (pe_lst (pa_cons pe_str (pa_cons pe_str (pa_cons pe_str (pa_cons pe_str (pa_cons pe_str (pa_cons pe_str (pa_cons pe_str (pa_cons pe_str (pa_cons pe_str pa_nil)))))))))) (by rfl) (.inr (by rfl)))
    (pss_one (ps_ret (pe_join pe_str (pe_lcH (own := [("_law_word", 3), ("_law_good", 4)]) hc nd
      (pi_zipX (show kindSc.names.lookup ("zip" : Str) = _ by rfl) hz (pa_cons (var 2 "_law_words" _ rfl (by rfl) (by rfl)) (pa_cons (pe_op op_cat (var 1 "_law_some" _ rfl (by rfl) (by rfl)) (pe_lst (pa_cons (isx "TooMany" _ _ _ _ (by decide) (by rfl) (by decide)) pa_nil))) pa_nil)) (by rfl) (by rfl)) ok
      (g := gTup X.K 2 (gCons (gName 3) (gCons (gName 4) gNil))) (tt := tB (tVar 4)) (te := tVar 3)
      (fun s H Cc cl fp hb => pg_tupH hb (pgs_cons (pg_name (i := 3) nd rfl (.inl (by rfl)) (.inr (by rfl))) (pgs_cons (pg_name (i := 4) nd rfl (.inl (by rfl)) (.inr (by rfl))) pgs_nil (by rfl)) (by rfl)) (by rfl) (by rfl))
      (fun s H Cc cl fp hb => pts_one (pt_val (pe_var (i := 4) rfl (.inl (by rfl)) (by decide) (by decide)) (by intro _; rfl)))
      (fun s H Cc cl fp hb => pe_var (i := 3) rfl (.inl (by rfl)) (by decide) (by decide)) (by intro _; rfl)) (by rfl) (by rfl) hl))))), ?_⟩
  have sz : ∀ n, n ≤ 100 → n ≤ sizeLine := fun n h => Nat.le_trans h (by decide)
  refine ⟨rfl, hd, rfl, hd, rfl, hd, rfl, hd, sz _ (by simp), fun L1 n1 => ?_⟩
  have e1 : ExtH H (upd H L1 (.lst [.bl (x == "NoRule"), .bl (x == "NoSenses"), .bl (x == "NoState"), .bl (x == "NoBounds")])) := (ExtH.refl H).push n1
  have a1 : upd H L1 (.lst [.bl (x == "NoRule"), .bl (x == "NoSenses"), .bl (x == "NoState"), .bl (x == "NoBounds")]) L1 = some (.lst [.bl (x == "NoRule"), .bl (x == "NoSenses"), .bl (x == "NoState"), .bl (x == "NoBounds")]) := upd_same
  generalize upd H L1 (.lst [.bl (x == "NoRule"), .bl (x == "NoSenses"), .bl (x == "NoState"), .bl (x == "NoBounds")]) = H1 at e1 a1 ⊢
  have d1 := hd.ext e1
  refine ⟨.ref L1, rfl, rfl, d1, rfl, d1, rfl, d1, rfl, d1, sz _ (by simp), fun L2 n2 => ?_⟩
  refine ⟨L1, L2, _, _, rfl, rfl, by rw [upd_ne (ne_of_none a1 n2)]; exact a1, upd_same, sz _ (by simp), fun L3 n3 => ?_⟩
  have e3 : ExtH H (upd (upd H1 L2 (.lst [.bl (x == "NoPlace"), .bl (x == "NoRows"), .bl (x == "NoFirst"), .bl (x == "Unlike")])) L3 (.lst ([.bl (x == "NoRule"), .bl (x == "NoSenses"), .bl (x == "NoState"), .bl (x == "NoBounds")] ++ [.bl (x == "NoPlace"), .bl (x == "NoRows"), .bl (x == "NoFirst"), .bl (x == "Unlike")]))) := (e1.push n2).push n3
  have a3 : upd (upd H1 L2 (.lst [.bl (x == "NoPlace"), .bl (x == "NoRows"), .bl (x == "NoFirst"), .bl (x == "Unlike")])) L3 (.lst ([.bl (x == "NoRule"), .bl (x == "NoSenses"), .bl (x == "NoState"), .bl (x == "NoBounds")] ++ [.bl (x == "NoPlace"), .bl (x == "NoRows"), .bl (x == "NoFirst"), .bl (x == "Unlike")])) L3 = some (.lst ([.bl (x == "NoRule"), .bl (x == "NoSenses"), .bl (x == "NoState"), .bl (x == "NoBounds")] ++ [.bl (x == "NoPlace"), .bl (x == "NoRows"), .bl (x == "NoFirst"), .bl (x == "Unlike")])) := upd_same
  generalize upd (upd H1 L2 (.lst [.bl (x == "NoPlace"), .bl (x == "NoRows"), .bl (x == "NoFirst"), .bl (x == "Unlike")])) L3 (.lst ([.bl (x == "NoRule"), .bl (x == "NoSenses"), .bl (x == "NoState"), .bl (x == "NoBounds")] ++ [.bl (x == "NoPlace"), .bl (x == "NoRows"), .bl (x == "NoFirst"), .bl (x == "Unlike")])) = H3 at e3 a3 ⊢
  refine ⟨sz _ (by simp), fun L4 n4 => ?_⟩
  have e4 : ExtH H (upd H3 L4 (.lst [V.str "NoRule", V.str "NoSenses", V.str "NoState", V.str "NoBounds", V.str "NoPlace", V.str "NoRows", V.str "NoFirst", V.str "Unlike", V.str "TooMany"])) := e3.push n4
  have a4 : upd H3 L4 (.lst [V.str "NoRule", V.str "NoSenses", V.str "NoState", V.str "NoBounds", V.str "NoPlace", V.str "NoRows", V.str "NoFirst", V.str "Unlike", V.str "TooMany"]) L4 = some (.lst (exNames.map V.str)) := upd_same
  have a34 : upd H3 L4 (.lst [V.str "NoRule", V.str "NoSenses", V.str "NoState", V.str "NoBounds", V.str "NoPlace", V.str "NoRows", V.str "NoFirst", V.str "Unlike", V.str "TooMany"]) L3 = some (.lst ([.bl (x == "NoRule"), .bl (x == "NoSenses"), .bl (x == "NoState"), .bl (x == "NoBounds")] ++ [.bl (x == "NoPlace"), .bl (x == "NoRows"), .bl (x == "NoFirst"), .bl (x == "Unlike")])) := by rw [upd_ne (ne_of_none a3 n4)]; exact a3
  generalize upd H3 L4 (.lst [V.str "NoRule", V.str "NoSenses", V.str "NoState", V.str "NoBounds", V.str "NoPlace", V.str "NoRows", V.str "NoFirst", V.str "Unlike", V.str "TooMany"]) = H4 at e4 a4 a34 ⊢
  have d4 := hd.ext e4
  refine ⟨⟨_, rfl⟩, .ref L4, rfl, .ref L3, rfl, rfl, d4, sz _ (by simp), fun L5 n5 => ?_⟩
  have n5' : upd H4 L5 (.lst [.bl (x == "TooMany")]) L3 = some (.lst ([.bl (x == "NoRule"), .bl (x == "NoSenses"), .bl (x == "NoState"), .bl (x == "NoBounds")] ++ [.bl (x == "NoPlace"), .bl (x == "NoRows"), .bl (x == "NoFirst"), .bl (x == "Unlike")])) := by rw [upd_ne (ne_of_none a34 n5)]; exact a34
  refine ⟨L3, L5, _, _, rfl, rfl, n5', upd_same, sz _ (by simp), fun L6 n6 => ?_⟩
  have e6 := (e4.push (o := .lst [.bl (x == "TooMany")]) n5).push (o := .lst (exNames.map fun y => V.bl (x == y))) n6
  have a46 : upd (upd H4 L5 (.lst [.bl (x == "TooMany")])) L6 (.lst (exNames.map fun y => V.bl (x == y))) L4 = some (.lst (exNames.map V.str)) := by
    rw [upd_ne, upd_ne (ne_of_none a4 n5)]
    · exact a4
    · refine ne_of_none (o := .lst (exNames.map V.str)) ?_ n6
      rw [upd_ne (ne_of_none a4 n5)]; exact a4
  have a6 : upd (upd H4 L5 (.lst [.bl (x == "TooMany")])) L6 (.lst (exNames.map fun y => V.bl (x == y))) L6 = some (.lst ((exNames.map fun y => x == y).map V.bl)) := by rw [upd_same]; rfl
  refine ⟨L4, L6, exNames.map V.str, (exNames.map fun y => x == y).map V.bl, rfl, .inl (.inl a46), .inl (.inl a6), ?_⟩
  intro D nD
  refine lc_kind ⟨_, _, _, rfl⟩ a46 a6 (by simp) (by decide) nD fun H' eH hD => ?_
  obtain ⟨j1, j2⟩ := sel_words x hx
  refine ⟨"", D, sel exNames (exNames.map fun y => x == y), rfl, rfl, .inl (.inl (.inl hD)), j2, ?_⟩
  rw [j1]
  exact hq H' fun b o h => eH b o (e6 b o h)
end DL
end

section
set_option Elab.async false
set_option linter.all false
set_option maxRecDepth 100000
set_option autoImplicit false
set_option maxHeartbeats 1000000
/-! DLH7: a lambda handed to a def that calls it; its exceptions have no context. -/
namespace DL
open PySem PySem.Spec PyProof.Rows L2 LamX
theorem inv_xe {X : Cx} {E : Value → Shared → Prop} {pins : List (Addr × Obj)} {σ : L2.St} {H : Hp} {s : Shared} (I : Inv X pins σ H s) : Inv { X with xe := E } pins σ H s :=
  Inv.unwish (X := { X with xe := E }) (E := X.xe) I
/-- the context of the lambda's body -/
def lamN (X : Cx) (A : Around) (outer : List Env) (s : Shared) (H : Hp) (E : XK) (scope : Scope) (f c' : Addr) : Cx :=
  { LamX.lamCx X A outer s H E scope f c' with xe := fun e s' => wpAny (model X.prog X.w) (A.deeper (lamEnv X scope s.heap.objs.size f c')) (leaving (lamEnv X scope s.heap.objs.size f c') e) (fun _ s'' => L2N.CX X.prog X.w outer H s E e s'') (fun e' s'' => L2N.CX X.prog X.w outer H s E e' s'') s' }
section
variable {X : Cx} {pins : List (Addr × Obj)} {σ : L2.St} {H HZ : Hp} {s s1 : Shared}
theorem lamN_start {A : Around} {outer : List Env} {E : XK} {scope : Scope} {f c' : Addr} {h1 : Heap} {tk : Nat} (I : Inv X pins σ H s) (L : LamS X.env.scope scope) (e0 : Env0 X.prog X.w X.K X.mg X.base A outer s1 HZ) (hd : A.handled = none)
    (un : Un (frs X.stack) [] H HZ s.heap s1.heap) (hns : h1.Ns s1.heap.objs.size fun y => ([] : List (Str × Value)).reverse.lookup y) (kp : ∀ b o, s1.heap.get? b = some o → h1.get? b = some o) :
    Inv (lamN X A outer s1 HZ E scope f c') [] σ HZ { s1 with heap := h1, toks := tk } :=
  inv_xe (LamX.lam_start2 (E := E) (f := f) (c' := c') I L e0 hd un hns kp)
theorem act_ok {CXg : CXT} {Eg : XK} {Ng : List Str} {qg : Str} {sg : Scope} {g f c' : Addr} {cdg pm ctv : Value} {params : Arguments} {body : Expr} {scope : Scope} {k i : Nat} {a : Str} {pn : List (Addr × Obj)} {xe : Value → Shared → Prop} {W : WX} {E : XK} {tb : TE} {p1 p2 : Pos}
    (I : Inv X pins σ H s) (L : LamS X.env.scope scope) (hf : s.heap.get? f = some (PySem.W.kla_obj "<lambda>" (X.env.qual ++ "<lambda>") params body scope (cloFrom X.env.cells scope.names []) pm c' ctv)) (hfn : H f = none) (hfr : f ∉ frs X.stack)
    (bi : bindArgs (PySem.W.kla_fn "<lambda>" (X.env.qual ++ "<lambda>") params body scope (cloFrom X.env.cells scope.names []) pm (.ref c') ctv) ⟨[], []⟩ = pure [])
    (tk : L2N.Takes ((cxOf CXg X.prog X.w X.K X.mg X.base Ng qg sg g cdg X.A X.stack s H Eg).tr pn xe) W) (hr : Room (k + 1) (X.A.deeper (envOfC qg sg s.heap.objs.size g cdg)))
    (hb : ∀ (A : Around) (outer : List Env) (s : Shared) (H : Hp), Room k (A.deeper (lamEnv X scope s.heap.objs.size f c')) → PE (lamN X A outer s H E scope f c') body tb)
    (hN : Ng[i]? = some a) (hv : Vis sg a) (hd : (a == ("__debug__" : Str)) = false) (hcd : (a == ("__classdict__" : Str)) = false) :
    PE ((cxOf CXg X.prog X.w X.K X.mg X.base Ng qg sg g cdg X.A X.stack s H Eg).tr pn xe) (.Call (.Name a p1) [] [] p2)
      (fun σZ HZ Q => σZ[i]? = some (some (.ref f)) ∧ HZ c' = some (CodeO c' (X.env.qual ++ "<lambda>")) ∧ (∀ cls d H', E cls d H' → W cls d σZ H') ∧ tb σ HZ Q) := by
  refine ⟨fun pz sZ σZ HZ Q IZ h => ?_⟩
  obtain ⟨hs, hc, hW, ht⟩ := h
  refine wpAny_Call_Name_kw (thn ((pe_var (pos := p1) (i := i) hN hv hd hcd).run pz sZ σZ HZ (fun v H1 => v = .ref f ∧ H1 = HZ) IZ ⟨.ref f, hs, rfl, rfl⟩) fun u s1 ⟨v, H1, I1, r1, q1⟩ => ?_)
  obtain ⟨rfl, rfl⟩ := q1
  obtain rfl : u = Value.ref f := r1
  have at1 : s1.heap.get? f = some (PySem.W.kla_obj "<lambda>" (X.env.qual ++ "<lambda>") params body scope (cloFrom X.env.cells scope.names []) pm c' ctv) := I1.base.keep f _ hf hfn hfr (fun z => nomatch (show f ∈ ([] : List Addr) from z))
  refine PySem.W.callWith_F0 ⟨_, _, _, _, at1⟩ ?_
  have un : Un (frs X.stack) [] H H1 s.heap s1.heap := I1.base
  obtain ⟨⟨oc, vs, t, hoc, hdc, hvc⟩, _, _⟩ := I1.hok c' _ hc
  have rc : codeAny (model X.prog X.w) (X.A.deeper (envOfC qg sg s.heap.objs.size g cdg)) (.call (.ref f) ⟨[], []⟩) (CR (L2N.CX X.prog X.w) (envOfC qg sg s.heap.objs.size g cdg :: X.stack) X.prog X.w H1 s1 Q E) s1 := by
    refine PySem.W.kla_callFunE hr.depth at1 rfl L.co L.gen rfl ⟨c', oc, vs, t, rfl, hoc, hdc, hvc⟩ ?_
    rw [bi]
    refine wpAny_pure (wpAny_newFunctionEnv (fun y hy => (L.own y hy).2) (fun y hy => absurd hy (by simp)) (fun h2 hns hsb => ⟨I1.nolimit.fresh _ hsb, ?_⟩) L.kind)
    show codeAny _ _ (.expr body (lamEnv X scope s1.heap.objs.size f c')) _ _
    have kp : ∀ b o, s1.heap.get? b = some o → h2.get? b = some o := fun b o e => hsb.extBut b o (Nat.ne_of_lt (Heap.lt_size e)) (Heap.get?_push_of_some _ e)
    have J : Inv (lamN X (X.A.deeper (envOfC qg sg s.heap.objs.size g cdg)) (envOfC qg sg s.heap.objs.size g cdg :: X.stack) s1 H1 E scope f c') [] σ H1 { s1 with heap := h2, toks := s1.toks + ([] : List (Str × Value)).length } :=
      lamN_start I L I1.env0 hr.hd un hns kp
    refine PySem.W.kla_codeExpr (wpAny_mono ((hb _ _ s1 H1 (hr.deeper _)).run [] _ _ H1 Q J ht) (fun v s' hq => ?_) fun e s' hq => hq)
    obtain ⟨w', H', J', rv, q⟩ := hq
    exact ⟨w', H', J'.os, J'.bare, J'.base, J'.hok, rv, q⟩
  have hx : ∀ e s', L2N.CX X.prog X.w (envOfC qg sg s.heap.objs.size g cdg :: X.stack) H1 s1 E e s' → xe e s' := fun e s' c => tk e s' (L2N.XE.of_call I1 hW c)
  refine wpAny_call (codeAny_mono rc fun r s' hq => ?_)
  cases r with
  | error e => exact hx e s' hq
  | ok fl =>
    cases fl with
    | ret u => exact I1.after hq
    | next => exact False.elim hq
    | brk => exact False.elim hq
    | cont => exact False.elim hq
end
section
variable {X : Cx} {pins : List (Addr × Obj)} {σ : L2.St} {H : Hp} {s : Shared}
theorem lam_makeN {T : List (Addr × Str)} {c P : Addr} {params : Arguments} {body : Expr} {scope : Scope} {pos : Pos} {E : Value → Shared → Prop} {Q : Value → Shared → Prop} (I : Inv X pins σ H s) (TB : TabB X.base X.mg c P) (hcode : X.env.code = .ref c)
    (mem : (P, X.env.qual ++ "<lambda>") ∈ T) (one : ∀ p ∈ T, p.1 = P → p.2 = X.env.qual ++ "<lambda>") (hT : Tabs T H) (hdef : defaultsOf params X.env = ([], [])) (frees : ∀ y ∈ scope.names, y.2 = .free → ∃ c, X.env.cells.lookup y.1 = some c)
    (fin : ∀ (f c' : Addr) (pm ctv : Value) (H1 : Hp) (s' : Shared), Inv X pins σ H1 s' → ExtN H H1 → There H H1 → Tabs T H1 →
      s'.heap.get? f = some (PySem.W.kla_obj "<lambda>" (X.env.qual ++ "<lambda>") params body scope (cloFrom X.env.cells scope.names []) pm c' ctv) → H1 f = none → f ∉ frs X.stack → H1 c' = some (CodeO c' (X.env.qual ++ "<lambda>")) → Q (.ref f) s') :
    wpAny (model X.prog X.w) X.A (eval (.Lambda params body scope pos) X.env) Q E s := by
  obtain ⟨ps, atP, tri, among⟩ := hT _ mem
  refine PySem.W.kla_eval hdef ?_
  have bP : s.heap.BuiltinsAt X.mg P := TB.bm.keeps I.bk
  have heapP : s.heap.get? P = some { cls := .none, data := .fields ps } := I.hok P _ atP
  have nofr : ∀ f, s.heap.objs.size ≤ f → f ∉ frs X.stack := fun f hf z => (List.mem_cons.mp (I.stkSub _ z)).elim (fun e => by
    have lt1 := I.lt
    rw [← e] at lt1
    exact Nat.lt_irrefl _ (Nat.lt_of_lt_of_le lt1 hf)) fun e => I.nofs hf e
  cases look : codeAmong pos ps.toList with
  | none =>
    refine PySem.W.kla_makeFunction (mg := X.mg) (c := c) (P := P) (ps := ps) (closure_ok frees) I.ok.glob (I.mod.glob.keeps I.bk) hcode (TB.code.keeps I.bk) heapP tri look TB.gP bP fun c' ctv h' tk hx hge hlt hrec htb => ?_
    obtain ⟨c2, oc, vs, t, e2, hoc, hd, hv⟩ := hrec
    cases e2
    have hsz : s.heap.objs.size ≤ h'.objs.size := Nat.le_trans hge (Nat.le_of_lt hlt)
    have nC : H c' = none := I.hok.fresh hge
    have I1 := inv_table (t' := tk) (more := #[rawInt pos.line, rawInt pos.col, .ref c']) (h' := h'.push (PySem.W.kla_obj "<lambda>" (X.env.qual ++ "<lambda>") params body scope (cloFrom X.env.cells scope.names []) ((X.mg "__name__").getD .none) c' ctv)) I atP
      (fun b o hb e => Heap.get?_push_of_some _ (hx b o hb e)) (Heap.get?_push_of_some _ htb) hge ⟨oc, vs, t, Heap.get?_push_of_some _ hoc, hd, hv⟩
    have ext : ExtN H (upd (upd H P (.tbl (ps ++ #[rawInt pos.line, rawInt pos.col, .ref c']))) c' (CodeO c' (X.env.qual ++ "<lambda>"))) := fun b o e n => by
      rw [upd_ne (ne_of_none e nC), upd_ne (fun z => n ps (Option.some.inj (e.symm.trans (by rw [z]; exact atP))))]
      exact e
    have there : There H (upd (upd H P (.tbl (ps ++ #[rawInt pos.line, rawInt pos.col, .ref c']))) c' (CodeO c' (X.env.qual ++ "<lambda>"))) := fun b o e => by
      rw [upd_ne (ne_of_none e nC)]
      by_cases z : b = P
      · subst z; exact ⟨_, upd_same⟩
      · rw [upd_ne z]; exact ⟨o, e⟩
    have eL : (ps ++ #[rawInt pos.line, rawInt pos.col, .ref c']).toList = ps.toList ++ [rawInt pos.line, rawInt pos.col, .ref c'] := by simp
    refine fin h'.objs.size c' ((X.mg "__name__").getD .none) ctv _ _ I1 ext there (fun p hp => ?_) (Heap.get?_push_size _ rfl) ?_ (nofr _ hsz) upd_same
    · by_cases hb : p.1 = P
      · rw [one p hp hb, hb]
        refine ⟨_, by rw [upd_ne (ne_of_none atP nC), upd_same], by rw [eL]; exact PySem.TriplesOk_snoc _ _ _ _ tri, fun p' cv hcv => ?_⟩
        rw [eL] at hcv
        rcases among_app _ tri hcv with z | z
        · obtain ⟨c0, e1, e2⟩ := among p' cv z
          exact ⟨c0, e1, ext _ _ e2 codeO_ne⟩
        · exact ⟨c', z, upd_same⟩
      · obtain ⟨ps', a1, a2, a3⟩ := hT p hp
        refine ⟨ps', by rw [upd_ne (ne_of_none a1 nC), upd_ne hb]; exact a1, a2, fun p' cv hcv => ?_⟩
        obtain ⟨c0, e1, e2⟩ := a3 p' cv hcv
        exact ⟨c0, e1, ext _ _ e2 codeO_ne⟩
    · have n1 : h'.objs.size ≠ c' := Nat.ne_of_gt hlt
      have n2 : h'.objs.size ≠ P := Nat.ne_of_gt (Nat.lt_of_lt_of_le (Heap.lt_size heapP) hsz)
      rw [upd_ne n1, upd_ne n2]
      exact I.hok.fresh hsz
  | some cv =>
    obtain ⟨c', rfl, hco⟩ := among pos cv look
    refine PySem.W.kla_makeFunctionHit (mg := X.mg) (c := c) (P := P) (ps := ps) (closure_ok frees) I.ok.glob (I.mod.glob.keeps I.bk) hcode (TB.code.keeps I.bk) heapP tri look bP fun ctv h' tk hx hsz => ?_
    have I1 : Inv X pins σ H { s with heap := h'.push (PySem.W.kla_obj "<lambda>" (X.env.qual ++ "<lambda>") params body scope (cloFrom X.env.cells scope.names []) ((X.mg "__name__").getD .none) c' ctv), toks := tk } := I.kept fun b o e => Heap.get?_push_of_some _ (hx b o e)
    exact fin h'.objs.size c' ((X.mg "__name__").getD .none) ctv H _ I1 (ExtN.refl H) (fun b o e => ⟨o, e⟩) hT (Heap.get?_push_size _ rfl) (I.hok.fresh hsz) (nofr _ hsz) hco
end
/-- the def that calls what it got -/
def tLamN (T : List (Addr × Str)) (TT : (XK → Hp → VK → Prop) → Hp → VK → Prop) (t : XK → TE) : TE := fun σ H Q => Tabs T H ∧ ∀ H1, ExtN H H1 → There H H1 → Tabs T H1 → TT (fun E H' Q' => t E σ H' Q') H1 Q
section
variable {X : Cx}
/-- x(lambda: body) -/
theorem pe_lamN {T : List (Addr × Str)} {TT : (XK → Hp → VK → Prop) → Hp → VK → Prop} {x a : Str} {g c P : Addr} {k : Nat} {pg : Arguments} {bg : List Stmt} {sg : Scope} {dV kV doc pm cdv ct oc : Value} {an od : Option Addr} {osl : Array (Option Value)} {Ng : List Str}
    {params : Arguments} {body : Expr} {scope : Scope} {t : XK → TE} {p lpos pos : Pos} (hg : Gl X x) (hm : X.mg x = some (.ref g)) (hk : PySem.W.keepIn X.K (.ref g) = true)
    (lk : X.K.lookup g = some ⟨oc, od, .func (PySem.W.fnOf x x pg bg sg dV kV doc pm an cdv ct), osl⟩) (hcg : PySem.W.codeIn X.K cdv x = true) (bi : L2.Binds X.K (PySem.W.fnOf x x pg bg sg dV kV doc pm an cdv ct) [a] []) (Sg : FnScope Ng [a] sg) (hNg : Ng[0]? = some a) (hva : Vis sg a)
    (hG : GivesN X Ng x sg g cdv bg a (X.env.qual ++ "<lambda>") TT)
    (TB : TabB X.base X.mg c P) (hcode : X.env.code = .ref c) (hmT : (P, X.env.qual ++ "<lambda>") ∈ T) (hu : ∀ p ∈ T, p.1 = P → p.2 = X.env.qual ++ "<lambda>") (hr : Room (k + 2) X.A) (L : LamS X.env.scope scope) (hdef : defaultsOf params X.env = ([], []))
    (bl : ∀ (q : Str) (cl : List (Str × Addr)) (pm cv ctv : Value), bindArgs (PySem.W.kla_fn "<lambda>" q params body scope cl pm cv ctv) ⟨[], []⟩ = pure [])
    (hb : ∀ (A : Around) (outer : List Env) (s : Shared) (H : Hp) (E : XK) (f c' : Addr), Room k (A.deeper (lamEnv X scope s.heap.objs.size f c')) → PE (lamN X A outer s H E scope f c') body (t E))
    (hdb : (x == ("__debug__" : Str)) = false) (hd : (a == ("__debug__" : Str)) = false) (hcd : (a == ("__classdict__" : Str)) = false) :
    PE X (.Call (.Name x p) [.Lambda params body scope lpos] [] pos) (tLamN T TT t) := by
  refine ⟨fun pins s σ H Q I h => ?_⟩
  obtain ⟨hT, h⟩ := h
  refine wpAny_Call_Name_kw (ld_glob I hg hm ?_ hdb)
  refine PySem.W.callWith_K (h₀ := X.base) I.ok.mod.kin hk ?_ (by rfl) (by rfl)
  show wpAny _ _ (spliced ((false, eval (.Lambda params body scope lpos) X.env) :: backTo pos (starEach [] X.env))) _ _ s
  refine Calls.spliced_cons (lam_makeN I TB hcode hmT hu hT hdef (L.has I.ok) fun f c' pm' ctv H1 s' I1 eN tH T1 hf hfn hfr hco => ?_)
  refine Calls.spliced_nil ⟨I1.kIn, ?_⟩
  have rc : codeAny (model X.prog X.w) X.A (.call (.ref g) ⟨[.ref f], []⟩) (CR C8.CX0 X.stack X.prog X.w H1 s' Q C8.E0) s' := by
    refine run_ofS (N := Ng) (ps := [a]) (us := [.ref f]) (vs := [.ref f]) lk hcg Sg hr I1.env0 (bi s' [.ref f] I1.kIn rfl) (.cons rfl .nil) rfl fun hr' => ?_
    obtain ⟨t', ht', hq'⟩ := hG f c' s' H1 Q (fun E H' Q' => t E σ H' Q') (hr'.mono (by omega)) (fun W pn xe E p1 p2 tk => act_ok (i := 0) I1 L hf hfn hfr (bl _ _ _ _ _) tk hr' (fun A outer s H hr2 => hb A outer s H E f c' hr2) hNg hva hd hcd) hco (h H1 eN tH T1)
    exact ⟨t', ht'.nox, hq'⟩
  refine wpAny_call (codeAny_mono rc fun r s2 hq => ?_)
  cases r with
  | error e => exact (show False from hq).elim
  | ok fl =>
    cases fl with
    | ret u => exact I1.after hq
    | next => exact False.elim hq
    | brk => exact False.elim hq
    | cont => exact False.elim hq
end
end DL
end

section
set_option Elab.async false
set_option linter.all false
set_option maxRecDepth 100000
set_option autoImplicit false
set_option maxHeartbeats 1000000
/-! DLH8: the law's own trying of a deed. -/
namespace DL
open PySem PySem.Spec PyProof.Rows L2 HotX L2H LamX
def triedBody (p : Nat → Pos) : List Stmt := [ (.Assign (targets := [(.Name "_law_found" (p 0))]) (value := (.Tuple [(.Constant (.str "none") 0 (p 1))] 0 (p 2))) (pos := (p 3))), (.Try (body := [ (.Assign (targets := [(.Name "_law_found" (p 4))]) (value := (.Tuple (elts := [ (.Constant (.str "told") 0 (p 5)), (.Call (.Name "_law_deed" (p 6)) [] [] (p 7))]) (k := 0) (pos := (p 8)))) (pos := (p 9)))]) (handlers := [ (.ExceptHandler (type := (some (.Name "TooMany" (p 10)))) (name := (some "_law_e")) (body := [ (.Assign (targets := [(.Name "_law_found" (p 11))]) (value := (.Tuple (elts := [ (.Call (func := (.Name "_law_kind" (p 12))) (args := [(.Name "_law_e" (p 13))]) (keywords := []) (pos := (p 14))), (.Attribute (.Name "_law_e" (p 15)) "most" (p 16))]) (k := 0) (pos := (p 17)))) (pos := (p 18)))]) (pos := (p 19))), (.ExceptHandler (type := (some (.Name "SteerError" (p 20)))) (name := (some "_law_e")) (body := [ (.Assign (targets := [(.Name "_law_found" (p 21))]) (value := (.Tuple (elts := [ (.Call (func := (.Name "_law_kind" (p 22))) (args := [(.Name "_law_e" (p 23))]) (keywords := []) (pos := (p 24)))]) (k := 0) (pos := (p 25)))) (pos := (p 26)))]) (pos := (p 27)))]) (orelse := []) (finalbody := []) (pos := (p 28))), (.Return (some (.Name "_law_found" (p 29))) (p 30))]
def triedSc : Scope := { kind := .function, names := [ ("_law_deed", .local), ("_law_found", .local), ("_law_e", .local), ("TooMany", .globalImplicit), ("_law_kind", .globalImplicit), ("SteerError", .globalImplicit)], isGenerator := false, isCoroutine := false, more := [] : PySem.Scope }

def triedN : List Str := ["_law_deed", "_law_found", "_law_e"]
theorem tried_gives {X : Cx} {g fk CS : Addr} {cdg : Value} {p : Nat → Pos} {C : Str → Addr} {q : Str} {fd : FuncData}
    (hC : ∀ x ∈ exNames, X.mg x = some (.ref (C x))) (hS : X.mg ("SteerError" : Str) = some (.ref CS)) (e1 : ∀ x ∈ exNames, PySem.W.exmOne X.K (.ref (C x)) (.ref (C "TooMany")) = some (x == ("TooMany" : Str))) (e2 : ∀ x ∈ exNames, PySem.W.exmOne X.K (.ref (C x)) (.ref CS) = some true)
    (xf : XfC X.K (C "TooMany")) (hno : PySem.W.findIn X.K (.ref (C "TooMany")) "most" = some none) (Fk : FnHp X.prog X.w X.K X.mg X.base (L2N.CX X.prog X.w) 1 fk fd ["_law_e"] (spKind X.K C)) (mk : X.mg ("_law_kind" : Str) = some (.ref fk)) (kk : PySem.W.keepIn X.K (.ref fk) = true) (bk : Binds X.K fd ["_law_e"] []) (Sg : FnScope triedN ["_law_deed"] triedSc) :
    GivesN X triedN "_law_tried" triedSc g cdg (triedBody p) "_law_deed" q (TTried C) := by
  intro f c' s H Q tl hr act hc h
  let Z := (cxOf C8.CX0 X.prog X.w X.K X.mg X.base triedN "_law_tried" triedSc g cdg X.A X.stack s H C8.E0).nox
  have nd : Z.N.Nodup := Sg.nd
  have gl : ∀ y : Str, triedSc.names.lookup y = some .globalImplicit → Gl Z y := fun y h => h
  have kind : ∀ (a : Addr) (oe : Obj) (cls : Value) (d : Option Addr) (pn : List (Addr × Obj)) (q1 q2 q3 : Pos), L2N.Zn cls d oe → (∃ vs, oe.data = .fields vs) →
      PE (Z.suite a ((a, oe) :: pn)) (.Call (.Name "_law_kind" q1) [.Name "_law_e" q2] [] q3) (fun σ H Q => σ[2]? = some (some (.ref a)) ∧ ∃ x ∈ exNames, cls = .ref (C x) ∧ DicOk d H ∧ ∀ H', ExtH H H' → Q (.str x) H') := fun a oe cls d pn q1 q2 q3 hz ⟨vs, hv⟩ => by
    refine PE.imp (pe_hot (X := Z.suite a ((a, oe) :: pn)) (CX := L2N.CX X.prog X.w) (E := fun _ _ _ _ => False) (p := (a, oe)) Fk ⟨hr.dp, hr.un⟩ ⟨rfl, vs, hv, hz.2.2 vs hv⟩ List.mem_cons_self (gl _ (by rfl)) mk kk bk (fun σ pins H s e s' I c => passLN pins σ H s e s' I c)
      (pa_cons (pe_var (i := 2) rfl (.inl (by rfl)) (by decide) (by decide)) pa_nil) (by decide) (by rfl) (by rfl)) fun σ H Q hq => ?_
    obtain ⟨h1, x, hx, h2, h3, h4⟩ := hq
    exact ⟨.ref a, h1, rfl, x, hx, hz.1.trans h2, by rw [hz.2.1]; exact h3, h4⟩
  refine ⟨_, pss_cons (ps_set (i := 1) nd rfl (.inl (by rfl)) (pe_tup (pa_cons pe_str pa_nil)) (by rfl) (.inr (by rfl)))
    (pss_cons (ps_clauses (X := Z) (n := "_law_e") (i := 2) (Wo := fun _ _ _ _ => False)
        (tb := fun W D σ H => ∃ E : XK, (∀ cls d H', E cls d H' → W cls d σ H') ∧ σ[0]? = some (some (.ref f)) ∧ H c' = some (CodeO c' q) ∧ tl E H fun v H2 => ([V.str "told", v] : List V).length ≤ sizeLine ∧ ∀ T, H2 T = none → D.nx (σ.set 1 (some (.ref T))) (upd H2 T (.tup [.str "told", v])))
        (l := [(.ref (C "TooMany"), _), (.ref CS, _)]) rfl rfl nd rfl (by rfl) takes0N (fun W pn xe tk po => ?_)
        (.cons ⟨gl _ (by rfl), by decide, .inl (hC _ (by decide))⟩ (fun a oe cls d pn hz hf => pss_one (ps_set (i := 1) nd rfl (.inl (by rfl)) (pe_tup (pa_cons (kind a oe cls d pn _ _ _ hz hf) (pa_cons (pe_xf (X := Z) xf hno hz.zc hf (pe_var (i := 2) rfl (.inl (by rfl)) (by decide) (by decide)) (by rfl)) pa_nil))) (by rfl) (.inr (by rfl))))
        (.cons ⟨gl _ (by rfl), by decide, .inl hS⟩ (fun a oe cls d pn hz hf => pss_one (ps_set (i := 1) nd rfl (.inl (by rfl)) (pe_tup (pa_cons (kind a oe cls d pn _ _ _ hz hf) pa_nil)) (by rfl) (.inr (by rfl)))) .nil)))
    (pss_one (ps_ret (pe_var (i := 1) rfl (.inl (by rfl)) (by decide) (by decide))))), ?_⟩
  · refine ⟨fun pins s' σ H' D I ⟨E, h1, h2, h3, h4⟩ => ?_⟩
    refine (pss_one (ps_set (X := Z.tr pn xe) (i := 1) nd rfl (.inl (by rfl)) (pe_tup (pa_cons pe_str (pa_cons (act W pn xe E _ _ tk) pa_nil (by rfl)))) (by rfl) (.inr (by rfl)))).run pins s' σ H' D I ?_
    exact ⟨h2, h3, h1, h4⟩
  · refine ⟨by simp [sizeLine], fun T0 n0 => ?_⟩
    refine ⟨wTried C Q, fun cls d H' ⟨x, hx, ec, hd, t1, t2⟩ => ?_, rfl, ?_, ?_⟩
    · subst ec
      refine ⟨_, e1 x hx, fun hb a na => ?_, fun hb => ?_⟩
      · have ex : x = ("TooMany" : Str) := by simpa using hb
        obtain ⟨i, dd, ed, hdd, fin⟩ := t1 ex
        subst ex
        refine ⟨rfl, _, hx, rfl, hd, fun H2 eH => ⟨.ref a, rfl, rfl, rfl, dd, _, .int i, ed, eH _ _ hdd, rfl, by simp [sizeLine], fun T nT => ?_⟩⟩
        exact ⟨.ref T, rfl, fin T H2 eH nT⟩
      · refine ⟨true, e2 x hx, fun _ a na => ?_, fun z => nomatch z⟩
        refine ⟨rfl, x, hx, rfl, hd, fun H2 eH => ⟨by simp [sizeLine], fun T nT => ?_⟩⟩
        exact ⟨.ref T, rfl, t2 (by intro z; subst z; simp at hb) T H2 eH nT⟩
    · rw [upd_ne (ne_of_none hc n0)]; exact hc
    · have e : ∀ (T : Addr) (H' : Hp), (∃ u, some (some (V.ref T)) = some (some u) ∧ Q u H') = Q (.ref T) H' := fun T H' => by simp
      show tl _ _ (fun v H2 => ([V.str "told", v] : List V).length ≤ sizeLine ∧ ∀ T, H2 T = none → ∃ u, some (some (V.ref T)) = some (some u) ∧ Q u (upd H2 T (.tup [.str "told", v])))
      simp only [e]
      exact h T0 n0
end DL
end

section
set_option Elab.async false
set_option linter.all false
set_option maxRecDepth 100000
set_option autoImplicit false
set_option maxHeartbeats 1000000
/-! DLH9: the meaning of a deed that is tried. -/
namespace DL
open PySem PySem.Spec PyProof.Rows L2 LamX
section
variable {fr : Fr} {σ : L2.St} {H H1 : Hp} {w : Wl}
theorem At.more (A : At fr σ H w) (e : ExtN H H1) (th : There H H1) (t : Tabs fr.T H1) : At fr σ H1 w ∧ Nx σ H w H1 w := by
  refine ⟨⟨⟨fun a o h => e a o (A.good.sub a o h) (A.good.fn a o h), A.good.fn, t, A.good.nd, A.good.fb, ?_⟩, ⟨fun a o h hn nb no => e a o (A.stp.keep a o h hn nb no) hn, A.stp.sub, A.stp.bags, A.stp.fz, fun a o h => ?_⟩, ⟨A.slots.val, fun i c h => ?_, A.slots.inj, A.slots.len⟩⟩,
    ⟨fun a o h hn _ => e a o h hn, fun _ _ h => h, ⟨[], by simp, by simp⟩, fun _ _ h => .inl h, th, fun _ h => h⟩⟩
  · have key : ∀ {B : List Addr} {S : Store}, Paired (fun a ns => H a = some (.lst ((ns : List Int).map V.int))) B S → Paired (fun a ns => H1 a = some (.lst ((ns : List Int).map V.int))) B S := by
      intro B S q
      induction q with
      | nil => exact .nil
      | cons q _ ih => exact .cons (e _ _ q nt_lst) ih
    exact key A.good.bag
  · obtain ⟨o', z⟩ := A.stp.there a o h
    exact th a o' z
  · obtain ⟨a, h1, h2, h3, h4, u, z1, z2⟩ := A.slots.own i c h
    exact ⟨a, h1, h2, h3, h4, u, e _ _ z1 z2.nt, z2⟩
theorem At.ext (A : At fr σ H w) (e : ExtH H H1) : At fr σ H1 w ∧ Nx σ H w H1 w := A.more (ExtN.of e) (fun b o h => ⟨o, e b o h⟩) (A.good.tab.ext e)
theorem At.hid (A : At fr σ H w) : At ⟨fr.mg, fr.T, H, w.F, w.B⟩ σ H { w with ρ := w.ρ.map hide } := by
  have val : ∀ (i : Nat) (d : D), (w.ρ.map hide)[i]? = some (some (.val d)) → w.ρ[i]? = some (some (.val d)) := fun i d h => by
    rw [List.getElem?_map] at h
    cases e : w.ρ[i]? with
    | none => rw [e] at h; cases h
    | some o =>
      rw [e] at h
      have h' : hide o = some (.val d) := Option.some.inj h
      rw [hide_val h']
  have own : ∀ (i : Nat) (c : Cont), (w.ρ.map hide)[i]? ≠ some (some (.own c)) := fun i c h => by
    rw [List.getElem?_map] at h
    cases e : w.ρ[i]? with
    | none => rw [e] at h; cases h
    | some o =>
      rw [e] at h
      exact hide_own (Option.some.inj h)
  exact ⟨⟨A.good.sub, A.good.fn, A.good.tab, A.good.nd, A.good.fb, A.good.bag⟩, ⟨fun a o h _ _ _ => h, fun _ _ h => h, ⟨[], by simp, by simp⟩, fun _ _ h => .inl h, fun _ o h => ⟨o, h⟩⟩,
    ⟨fun i d h => A.slots.val i d (val i d h), fun i c h => absurd h (own i c), fun i j a ⟨c, h, _⟩ => absurd h (own i c), by show (w.ρ.map hide).length = _; rw [List.length_map]; exact A.slots.len⟩⟩
end
/-- the lambda's reading -/
def tDeed (fr : Fr) (Φ : PhiT) (m : M R) : XK → TE := fun E σ H Q => ∃ (H0 F0 : Hp) (B0 : List Addr), LV ⟨fr.mg, fr.T, H0, F0, B0⟩ (fun c d _ H' => E c d H') Φ (mFrz m) σ H Q
theorem tried_res {fr : Fr} {W : WX} {Φ : PhiT} {m : M R} {C : Str → Addr} (hC : ∀ x ∈ exNames, fr.mg x = some (.ref (C x))) {σ : L2.St} {H : Hp} {Q : VK} (h : LE fr W Φ (mTried m) σ H Q) : tLamN fr.T (TTried C) (tDeed fr Φ m) σ H Q := by
  obtain ⟨w, A, r⟩ := h
  refine ⟨A.good.tab, fun H1 e1 th1 t1 T0 n0 => ?_⟩
  obtain ⟨A1, N1⟩ := A.more e1 th1 t1
  have A2 := A1.push (o := .tup [.str "none"]) n0
  have N2 := N1.trans (Nx.push (o := .tup [.str "none"]) n0)
  generalize upd H1 T0 (.tup [.str "none"]) = H2 at A2 N2 ⊢
  refine ⟨H2, w.F, w.B, { w with ρ := w.ρ.map hide }, A2.hid, ?_⟩
  have r' : ResG fr W σ H w (RelR σ) Q (match mFrz m Φ ⟨w.ρ.map hide, w.S⟩ with
    | .ok d s' => .ok (.val (.tup [.str "told", d])) ⟨w.ρ, s'.S⟩
    | .ex x s' => if exNames.contains x.cls = true then (if x.cls = ("TooMany" : Str) then (match x.most with
        | some i => .ok (.val (.tup [.str "TooMany", .int i])) ⟨w.ρ, s'.S⟩
        | none => .no) else .ok (.val (.tup [.str x.cls])) ⟨w.ρ, s'.S⟩) else .no
    | .no => .no) := r
  show ResG _ _ σ H2 _ RelV' _ (mFrz m Φ ⟨w.ρ.map hide, w.S⟩)
  generalize mFrz m Φ ⟨w.ρ.map hide, w.S⟩ = o at r' ⊢
  -- a tuple at the end
  have last : ∀ {H3 : Hp} {w' : Wl} {vs : List V} {ds : List D} {S' : Store}, At ⟨fr.mg, fr.T, H2, w.F, w.B⟩ σ H3 w' → w'.S = S' → (∀ F' : Hp, (∀ a o, w'.F a = some o → F' a = some o) → Reps F' w'.B vs ds) → ResG fr W σ H w (RelR σ) Q (.ok (.val (.tup ds)) ⟨w.ρ, S'⟩) →
      ∀ T H4, ExtH H3 H4 → H4 T = none → Q (.ref T) (upd H4 T (.tup vs)) := fun {H3 w' vs ds S'} A3 eS R q T H4 e4 n4 => by
    obtain ⟨B3, M3⟩ := A2.after ⟨A3.good.sub, A3.good.fn, A3.good.tab, A3.good.nd, A3.good.fb, A3.good.bag⟩ A3.stp
    obtain ⟨B4, M4⟩ := B3.ext e4
    refine q (.ref T) _ ({ w' with ρ := w.ρ }.shut T (.tup vs)) rfl eS (B4.lay nt_tup n4) ((N2.trans (M3.trans M4)).trans (Nx.lay B4 n4)) ?_
    exact .tup (show upd w'.F T (.tup vs) T = _ from upd_same) (R _ fun a o h => by
      show upd w'.F T (.tup vs) a = some o
      rw [upd_ne (ne_of_none h (B4.newF n4))]; exact h)
  cases o with
  | no => exact r'.elim
  | ok d s' =>
    intro b H3 w' _ eS A3 _ R3
    exact ⟨by simp [sizeLine], fun T nT => last A3 eS (fun F' hF => .cons (.str "told" (by decide +kernel)) (.cons (Rep.mono hF (fun _ _ h => h) R3) .nil)) r' T H3 (ExtH.refl H3) nT⟩
  | ex x s' =>
    intro c d H3 w' _ eS A3 xo
    obtain ⟨hc, hm⟩ := xo
    dsimp only at r'
    by_cases hx : exNames.contains x.cls = true
    · have r2 : ResG fr W σ H w (RelR σ) Q (if x.cls = ("TooMany" : Str) then (match x.most with
        | some i => .ok (.val (.tup [.str "TooMany", .int i])) ⟨w.ρ, s'.S⟩
        | none => .no) else .ok (.val (.tup [.str x.cls])) ⟨w.ρ, s'.S⟩) := by rw [if_pos hx] at r'; exact r'
      have hmem : x.cls ∈ exNames := by simpa using hx
      have ec : c = .ref (C x.cls) := by
        have hc' : fr.mg x.cls = some c := hc
        rw [hC _ hmem] at hc'
        exact (Option.some.inj hc').symm
      have hd : DicOk d H3 := by
        cases e : x.most with
        | none => rw [e] at hm; exact .inl hm
        | some i => rw [e] at hm; obtain ⟨a, h1, h2⟩ := hm; exact .inr ⟨a, _, h1, h2⟩
      refine ⟨x.cls, hmem, ec, hd, fun ht => ?_, fun ht T H4 e4 n4 => ?_⟩
      · rw [if_pos ht] at r2
        cases e : x.most with
        | none => rw [e] at r2; exact r2.elim
        | some i =>
          rw [e] at r2 hm
          obtain ⟨a, h1, h2⟩ := hm
          exact ⟨i, a, h1, h2, last A3 eS (fun F' hF => .cons (.str "TooMany" (by decide +kernel)) (.cons (.int i) .nil)) r2⟩
      · rw [if_neg ht] at r2
        have ok : PyData.strOk x.cls = true := by
          have hall : ∀ y ∈ exNames, PyData.strOk y = true := by decide +kernel
          exact hall _ hmem
        exact last A3 eS (fun F' hF => .cons (.str x.cls ok) .nil) r2 T H4 e4 n4
    · rw [if_neg hx] at r'; exact r'.elim
end DL
end

section
set_option Elab.async false
set_option linter.all false
set_option maxRecDepth 100000
set_option autoImplicit false
set_option maxHeartbeats 1000000
/-! DL17: the meanings of expressions stand. -/
namespace DL
open PySem PySem.Spec PyProof.Rows L2
section
variable {v : Ev} {d : Dx} {X : Cx} {fr : Fr} {W : WX} {Φ : PhiT} {pos p ap cp : Pos}
theorem dConst_ok {c : Const} {j : Nat} : PE X (.Constant c j pos) (LE fr W Φ (dConst c)) := by
  cases c <;> first | exact pe_cint | exact pe_cbl | exact pe_cnon | exact pe_no | skip
  rename_i x
  show PE X (.Constant (.str x) j pos) (LE fr W Φ (if PyData.strOk x = true then mC (.str x) else M.no))
  split
  · rename_i h; exact pe_cstr h
  · exact pe_no
theorem dName_ok {b : Bool} {x : Str} (c : CtxOk d.C X fr W Φ) : PE X (.Name x pos) (LE fr W Φ (dName d b x)) := by
  unfold dName
  split
  · rename_i h
    obtain ⟨hd, hcd⟩ := okN_d h
    split
    · rename_i hv
      split
      · rename_i i hi
        split
        · exact pe_b c (idx_at hi) (visB_vis hv) hd hcd
        · exact pe_v c (idx_at hi) (visB_vis hv) hd hcd
      · exact pe_no
    · split
      · rename_i hg
        split
        · rename_i i hi
          exact pe_gint c (gloB_g hg) hi hd
        · exact pe_no
      · exact pe_no
  · exact pe_no
theorem units (c : CtxOk d.C X fr W Φ) : X.A.units + 64 < cLine := by have := c.units; omega
theorem units1 (c : CtxOk d.C X fr W Φ) : X.A.units + 1 < cLine := by have := c.units; omega
theorem dOp_ok {op : Operator} {f : D → D → Option R} {a b : Expr} {ma mb : M R} (h : dOp op = some f) (ha : PE X a (LE fr W Φ ma)) (hb : PE X b (LE fr W Φ mb)) : PE X (.BinOp a op b pos) (LE fr W Φ (mOp2 f ma mb)) := by
  cases op <;> first | cases h | skip
  · exact pe_bin op_addG vs_add ha hb
  · exact pe_bin op_sub vs_sub ha hb
  · exact pe_bin op_mulG vs_mul ha hb
  · exact pe_bin op_modN vs_mod ha hb
  · exact pe_bin op_pow vs_pow ha hb
  · exact pe_bin op_fdivN vs_div ha hb
theorem dCop_ok {o : CmpOp} {a b : Expr} {ma mb : M R} (c : CtxOk d.C X fr W Φ) (ha : PE X a (LE fr W Φ ma)) (hb : PE X b (LE fr W Φ mb)) (hm : behindInMarks o b = false) : PE X (.Compare a [o] [b] pos) (LE fr W Φ (mOp2 (dCop o) ma mb)) := by
  cases o
  · exact pe_cmpG (op_eqP (units c)) vs_eq ha hb hm
  · exact pe_cmpG (op_neP (units c)) vs_ne ha hb hm
  · exact pe_cmpG op_lt (vs_I _) ha hb hm
  · exact pe_cmpG op_le (vs_I _) ha hb hm
  · exact pe_cmpG op_gt (vs_I _) ha hb hm
  · exact pe_cmpG op_ge (vs_I _) ha hb hm
  · exact pe_cmpG op_isG vs_is ha hb hm
  · exact pe_cmpG op_isNotG vs_isNot ha hb hm
  · exact pe_cmpG (OpR.or (op_inP (units c)) (op_inDc (units1 c))) vs_inA ha hb hm
  · exact pe_cmpG (OpR.or (op_notInP (units c)) (op_notInDc (units1 c))) vs_notInA ha hb hm
theorem dCopT_ok {o : CmpOp} {a b : Expr} {ma mb : M R} (c : CtxOk d.C X fr W Φ) (ha : PE X a (LE fr W Φ ma)) (hb : PE X b (LE fr W Φ mb)) (hm : behindInMarks o b = false) : PT X (.Compare a [o] [b] pos) (LB fr W Φ (mBool (mOp2 (dCop o) ma mb))) := by
  cases o
  · exact pt_cmpG (op_eqP (units c)) vs_eq ha hb hm
  · exact pt_cmpG (op_neP (units c)) vs_ne ha hb hm
  · exact pt_cmpG op_lt (vs_I _) ha hb hm
  · exact pt_cmpG op_le (vs_I _) ha hb hm
  · exact pt_cmpG op_gt (vs_I _) ha hb hm
  · exact pt_cmpG op_ge (vs_I _) ha hb hm
  · exact pt_cmpG op_isG vs_is ha hb hm
  · exact pt_cmpG op_isNotG vs_isNot ha hb hm
  · exact pt_cmpG (OpR.or (op_inP (units c)) (op_inDc (units1 c))) vs_inA ha hb hm
  · exact pt_cmpG (OpR.or (op_notInP (units c)) (op_notInDc (units1 c))) vs_notInA ha hb hm
theorem dIop_ok {o : CmpOp} {f : Int → Int → Bool} (h : dIop o = some f) : OpR X (compareOp o) (rI0 fun i j => .bl (f i j)) := by
  cases o <;> first | cases h | skip
  · exact op_lt
  · exact op_le
  · exact op_gt
  · exact op_ge
theorem marks2 {o o' : CmpOp} {b c : Expr} (h : notSet c = true) : lastMarks [o, o'] [b, c] = false := notSet_m h o'
theorem dCmp_ok {a : Expr} {os : List CmpOp} {bs : List Expr} (h : EvOk v) (c : CtxOk d.C X fr W Φ) : PE X (.Compare a os bs pos) (LE fr W Φ (dCmp v d a os bs)) := by
  unfold dCmp
  split
  · split
    · rename_i hs
      exact dCop_ok c (h.e d _ _ X fr W Φ c) (h.e d _ _ X fr W Φ c) (notSet_m hs _)
    · exact pe_no
  · split
    · rename_i f g e1 e2
      split
      · rename_i hs
        exact pe_chainG (dIop_ok e1) (dIop_ok e2) (h.e d _ _ X fr W Φ c) (h.e d _ _ X fr W Φ c) (h.e d _ _ X fr W Φ c) (marks2 hs)
      · exact pe_no
    · exact pe_no
  · exact pe_no
theorem mBool_no : (mBool M.no : M Bool) = M.no := rfl
theorem dCmpT_ok {a : Expr} {os : List CmpOp} {bs : List Expr} (h : EvOk v) (c : CtxOk d.C X fr W Φ) : PT X (.Compare a os bs pos) (LB fr W Φ (mBool (dCmp v d a os bs))) := by
  unfold dCmp
  split
  · split
    · rename_i hs
      exact dCopT_ok c (h.e d _ _ X fr W Φ c) (h.e d _ _ X fr W Φ c) (notSet_m hs _)
    · exact pt_no
  · split
    · rename_i f g e1 e2
      split
      · rename_i hs
        exact pt_chainG (dIop_ok e1) (dIop_ok e2) (h.e d _ _ X fr W Φ c) (h.e d _ _ X fr W Φ c) (h.e d _ _ X fr W Φ c) (marks2 hs)
      · exact pt_no
    · exact pt_no
  · exact pt_no
theorem dBo_ok {b : Bool} {o : BoolOp} (h : EvOk v) (c : CtxOk d.C X fr W Φ) : ∀ l : List Expr, PE X (.BoolOp o l pos) (LE fr W Φ (dBo v d b o l))
  | [] => pe_no
  | [a] => pe_one (h.e d _ _ X fr W Φ c)
  | a :: a' :: r => by
    have ih := dBo_ok (b := b) (o := o) h c (a' :: r)
    cases o with
    | And => exact peA_and (h.e d _ _ X fr W Φ c) ih
    | Or => exact peA_orT (h.e d _ _ X fr W Φ c) ih
theorem pw_no {e : Expr} : PW X e (LB fr W Φ M.no) := ⟨fun _ _ _ _ _ _ _ ⟨_, _, r⟩ => r.elim⟩
theorem dBw_ok {o : BoolOp} (h : EvOk v) (c : CtxOk d.C X fr W Φ) : ∀ l : List Expr, PW X (.BoolOp o l pos) (LB fr W Φ (dBw v d o l))
  | [] => pw_no
  | [a] => by
    cases o with
    | And => exact pwA_and1 (h.t d _ X fr W Φ c)
    | Or => exact pwA_or1 (h.t d _ X fr W Φ c)
  | a :: a' :: r => by
    have ih := dBw_ok (o := o) h c (a' :: r)
    cases o with
    | And => exact pwA_and (h.t d _ X fr W Φ c) ih
    | Or => exact pwA_or (h.t d _ X fr W Φ c) ih
theorem po_map {lo : Option Expr} (h : EvOk v) (c : CtxOk d.C X fr W Φ) : PO X lo (fun σ H Q => LiftG fr W Φ RelO' (mPart (lo.map (v.e d true))) σ H Q) := by
  cases lo with
  | none => exact po_noneG
  | some e => exact po_someG (h.e d _ _ X fr W Φ c)
theorem dSub_ok {a i : Expr} (h : EvOk v) (c : CtxOk d.C X fr W Φ) : PE X (.Subscript a i pos) (LE fr W Φ (dSub v d a i)) := by
  unfold dSub
  split
  · exact pe_sliceG (h.e d _ _ X fr W Φ c) (po_map h c) (po_map h c)
  · split
    · rename_i hs
      exact pe_ixA (units1 c) (h.e d _ _ X fr W Φ c) (h.e d _ _ X fr W Φ c) (notSl_plain hs)
    · exact pe_no
theorem pa_map {b : Bool} (h : EvOk v) (c : CtxOk d.C X fr W Φ) : ∀ {es : List Expr}, noStars es = true → PA X es (LA fr W Φ (mArgs (es.map (v.e d b))))
  | [], _ => pa_nilG
  | e :: r, hs => by
    obtain ⟨h1, h2⟩ := Bool.and_eq_true_iff.mp (show (noStar e && noStars r) = true from hs)
    exact pa_consG (h.e d _ _ X fr W Φ c) (pa_map h c h2) (star_ok h1 r X.env)
theorem pl_map {b : Bool} (h : EvOk v) (c : CtxOk d.C X fr W Φ) : ∀ {es : List Expr}, noStars es = true → PA X es (LPs fr W Φ (mLooks (es.map (v.e d b))))
  | [], _ => pa_nilP
  | e :: r, hs => by
    obtain ⟨h1, h2⟩ := Bool.and_eq_true_iff.mp (show (noStar e && noStars r) = true from hs)
    exact pa_consP (h.e d _ _ X fr W Φ c) (pl_map h c h2) (star_ok h1 r X.env)
theorem dIsi_ok {a t : Expr} (h : EvOk v) (c : CtxOk d.C X fr W Φ) (hg : gloB d.C.sc ("isinstance" : Str) = true) (hs : noStar a = true) : PE X (.Call (.Name "isinstance" p) [a, t] [] pos) (LE fr W Φ (dIsi v d a t)) := by
  unfold dIsi
  split
  · split
    · rename_i ty e
      have := tyOf_nm e
      subst this
      split
      · rename_i hg2
        exact pe_isi c ty (gloB_g hg) (gloB_g hg2) (h.e d _ _ X fr W Φ c) (fun es => star_ok hs es X.env)
      · exact pe_no
    · exact pe_no
  · exact pe_no
theorem isRg1_is {a b : Expr} (h : isRg1 d a = some b) : ∃ p2 pos2, a = .Call (.Name "range" p2) [b] [] pos2 ∧ gloB d.C.sc ("range" : Str) = true := by
  unfold isRg1 at h
  split at h
  · split at h
    · rename_i e
      simp at e
      subst e
      split at h
      · rename_i g
        cases h
        exact ⟨_, _, rfl, g⟩
      · cases h
    · cases h
  · cases h
theorem isSet1_is {a b : Expr} (h : isSet1 d a = some b) : ∃ p2 pos2, a = .Call (.Name "set" p2) [b] [] pos2 ∧ gloB d.C.sc ("set" : Str) = true := by
  unfold isSet1 at h
  split at h
  · split at h
    · rename_i e
      simp at e
      subst e
      split at h
      · rename_i g
        cases h
        exact ⟨_, _, rfl, g⟩
      · cases h
    · cases h
  · cases h
theorem isZip2_is {a b c : Expr} (h : isZip2 d a = some (b, c)) : ∃ p2 pos2, a = .Call (.Name "zip" p2) [b, c] [] pos2 ∧ gloB d.C.sc ("zip" : Str) = true := by
  unfold isZip2 at h
  split at h
  · split at h
    · rename_i e
      simp at e
      subst e
      split at h
      · rename_i g
        cases h
        exact ⟨_, _, rfl, g⟩
      · cases h
    · cases h
  · cases h
theorem builtin_ok {a : Expr} {es : List Expr} (h : EvOk v) (c : CtxOk d.C X fr W Φ) (hs : noStars (a :: es) = true) {x : Str} {id : String} {r : List V → Hp → VK → Prop} {op : List D → Option R} (hg : gloB d.C.sc x = true) (hb : x ∈ bNames) (hv : bootBuiltins x = some (.builtin id)) (hn : x ≠ "__name__") (hdb : (x == ("__debug__" : Str)) = false)
    (hc : CallR X (.builtin id) r) (vs : VSC r op) : PE X (.Call (.Name x p) (a :: es) [] pos) (LE fr W Φ (mB op (mLooks ((a :: es).map (v.e d true))))) := by
  obtain ⟨h1, h2⟩ := Bool.and_eq_true_iff.mp (show (noStar a && noStars es) = true from hs)
  exact pe_bG c (gloB_g hg) hb hv hn hdb hc vs (pl_map h c hs) (star_ok h1 es X.env) (star_any h2)
theorem type_ok {a : Expr} {es : List Expr} (h : EvOk v) (c : CtxOk d.C X fr W Φ) (hs : noStars (a :: es) = true) {x : Str} {T : String} {r : List V → Hp → VK → Prop} {op : List D → Option R} (hg : gloB d.C.sc x = true) (hb : x ∈ bNames) (hv : bootBuiltins x = some (.type T)) (hn : x ≠ "__name__") (hdb : (x == ("__debug__" : Str)) = false)
    (hc : CallR X (.type T) r) (vs : VSC r op) : PE X (.Call (.Name x p) (a :: es) [] pos) (LE fr W Φ (mB op (mLooks ((a :: es).map (v.e d true))))) := by
  obtain ⟨h1, h2⟩ := Bool.and_eq_true_iff.mp (show (noStar a && noStars es) = true from hs)
  exact pe_tG c (gloB_g hg) hb hv hn hdb hc vs (pl_map h c hs) (star_ok h1 es X.env) (star_any h2)
theorem bi_ok {a : Expr} {es : List Expr} {b : Bi} (h : EvOk v) (c : CtxOk d.C X fr W Φ) (hs : noStars (a :: es) = true) (hg : gloB d.C.sc b.nm = true) (hl : b ≠ .len) (hi : b ≠ .isi) (hn : b ≠ .none) (hdd : b ≠ .dict) : PE X (.Call (.Name b.nm p) (a :: es) [] pos) (LE fr W Φ (mB (biOp b) (mLooks ((a :: es).map (v.e d true))))) := by
  have hu : X.A.units + 70 < cLine := c.units
  cases b <;> first | exact absurd rfl hl | exact absurd rfl hi | exact absurd rfl hn | exact absurd rfl hdd | skip
  · exact type_ok h c hs hg (by decide) PyProof.Rows.boot_int (by decide) (by decide) call_int1 vs_int1
  · exact builtin_ok h c hs hg (by decide) PyProof.Rows.boot_abs (by decide) (by decide) call_abs vs_abs
  · exact builtin_ok h c hs hg (by decide) PyProof.Rows.boot_sum (by decide) (by decide) (cr_sum c.calm) vs_sum
  · exact builtin_ok h c hs hg (by decide) PyProof.Rows.boot_all (by decide) (by decide) (cr_all c.calm) vs_all
  · exact builtin_ok h c hs hg (by decide) PyProof.Rows.boot_any (by decide) (by decide) (cr_any c.calm) vs_any
  · exact builtin_ok h c hs hg (by decide) PyProof.Rows.boot_max (by decide) (by decide) (CallR.or (call_max2 c.calm) (cr_max c.calm)) vs_max
  · exact builtin_ok h c hs hg (by decide) PyProof.Rows.boot_min (by decide) (by decide) (CallR.or (call_min2 c.calm) (cr_min c.calm)) vs_min
  · exact builtin_ok h c hs hg (by decide) PyProof.Rows.boot_sorted (by decide) (by decide) (cr_sortG hu) vs_sorted
  · exact type_ok h c hs hg (by decide) PyProof.Rows.boot_tuple (by decide) (by decide) call_tuple_of vs_tuple
  · exact type_ok h c hs hg (by decide) PyProof.Rows.boot_list (by decide) (by decide) call_list_of vs_list
theorem dBi_ok {args : List Expr} {x : Str} (h : EvOk v) (c : CtxOk d.C X fr W Φ) (hg : gloB d.C.sc x = true) : PE X (.Call (.Name x p) args [] pos) (LE fr W Φ (dBi v d (biOf x) args)) := by
  generalize hb : biOf x = b
  by_cases hn : b = .none
  · subst hn
    have e : dBi v d .none args = M.no := by cases args <;> rfl
    rw [e]; exact pe_no
  have hx := biOf_nm hb hn
  subst hx
  clear hb
  unfold dBi
  split
  · split
    · rename_i hs
      exact pe_lenS c (gloB_g hg) (h.e d _ _ X fr W Φ c) (star_ok hs [] X.env)
    · exact pe_no
  · split
    · rename_i hs
      exact dIsi_ok h c hg hs
    · exact pe_no
  · exact pe_no
  · exact pe_no
  · exact pe_no
  · split
    · rename_i b e0 e
      obtain ⟨p2, pos2, rfl, g⟩ := isZip2_is e
      split
      · rename_i hs
        have hs' : (noStar b && (noStar e0 && true)) = true := hs
        simp only [Bool.and_true, Bool.and_eq_true] at hs'
        exact pe_dzG c (gloB_g hg) (gloB_g g) (pa_map h c (es := [b, e0]) hs) (star_ok hs'.1 [e0] X.env) (star_any (es := [e0]) (by simp [noStars, hs'.2]))
      · exact pe_no
    · exact pe_no
  · exact pe_no
  · split
    · rename_i b e
      obtain ⟨p2, pos2, rfl, g⟩ := isSet1_is e
      split
      · rename_i hs
        exact pe_ssG c (gloB_g hg) (gloB_g g) (h.e d _ _ X fr W Φ c) (star_ok hs [] X.env)
      · exact pe_no
    · split
      · rename_i hs
        exact bi_ok (b := .sorted) h c (show noStars [_] = true by simp [noStars, hs]) hg (by simp) (by simp) (by simp) (by simp)
      · exact pe_no
  · split
    · rename_i b e
      obtain ⟨p2, pos2, rfl, g⟩ := isRg1_is e
      split
      · rename_i hs
        exact pe_listRange c (gloB_g hg) (gloB_g g) (h.e d _ _ X fr W Φ c) (star_ok hs [] X.env)
      · exact pe_no
    · split
      · rename_i hs
        exact bi_ok (b := .list) h c (show noStars [_] = true by simp [noStars, hs]) hg (by simp) (by simp) (by simp) (by simp)
      · exact pe_no
  · split
    · rename_i hs
      exact bi_ok h c hs hg (by assumption) (by assumption) hn (by assumption)
    · exact pe_no
  · exact pe_no
end
end DL
end

section
set_option Elab.async false
set_option linter.all false
set_option maxRecDepth 100000
set_option autoImplicit false
set_option maxHeartbeats 1000000
/-! DL18: calls, comprehensions, what is walked; den stands. -/
namespace DL
open PySem PySem.Spec PyProof.Rows L2
section
variable {v : Ev} {d : Dx} {X : Cx} {fr : Fr} {W : WX} {Φ : PhiT} {pos p ap cp : Pos}
theorem share {σ : L2.St} {H : Hp} {Q : VK} : ∀ {is : List Nat} {m : M R}, LE fr W Φ (mSh is m) σ H Q → LE fr W Φ m σ H Q
  | [], _, h => h
  | i :: r, m, ⟨w, A, h⟩ => by
    have h' : ResG fr W σ H w (RelR σ) Q (match w.ρ[i]? with
      | some (some (.own c)) => mSh r m Φ ⟨w.ρ.set i (some (.val c.d)), w.S⟩
      | _ => mSh r m Φ ⟨w.ρ, w.S⟩) := h
    cases e : w.ρ[i]? with
    | none => rw [e] at h'; exact share ⟨w, A, h'⟩
    | some o =>
      rw [e] at h'
      cases o with
      | none => exact share ⟨w, A, h'⟩
      | some sl =>
        cases sl with
        | val d => exact share ⟨w, A, h'⟩
        | own k =>
          obtain ⟨v, w', A', N', e1, e2, _, _⟩ := A.freeze e
          refine share (is := r) ⟨w', A', ?_⟩
          rw [e1, e2]
          have h2 : ResG fr W σ H w (RelR σ) Q (mSh r m Φ ⟨w.ρ.set i (some (.val k.d)), w.S⟩) := h'
          generalize mSh r m Φ ⟨w.ρ.set i (some (.val k.d)), w.S⟩ = o2 at h2 ⊢
          cases o2 with
          | no => exact h2
          | ex x s => exact h2
          | ok r s => exact fun b H2 w2 q1 q2 A2 N2 R2 => h2 b H2 w2 q1 q2 A2 (N'.trans N2) R2
theorem CtxOk.lamb {scope : Scope} {A : Around} {outer : List Env} {s : Shared} {H : Hp} {E : XK} {f c' : Addr} {H0 F0 : Hp} {B0 : List Addr} {k : Nat} (c : CtxOk d.C X fr W Φ) (k2 : 2 ≤ k) (hr : Room k (A.deeper (LamX.lamEnv X scope s.heap.objs.size f c'))) (hf : ∀ x f n, d.C.tb x = some (.fn f n) → FnK X fr.mg fr.T Φ k x f n) :
    CtxOk (d.lamb scope).C (lamN X A outer s H E scope f c') ⟨fr.mg, fr.T, H0, F0, B0⟩ (fun cls d _ H' => E cls d H') Φ := by
  refine ⟨c.N, c.nd, rfl, (fun x z => nomatch (show false = true from z)), rfl, c.mg, ?_, L2N.takes_of rfl rfl rfl rfl, c.gint, c.free, ⟨k, k2, hr, (fun z => nomatch (show false = true from z)), fun x f n h => ⟨(hf x f n h).ex⟩⟩, fun x h => ⟨(c.exc x h).ex⟩, fun x h => ⟨(c.exc1 x h).ex⟩, fun z => nomatch (show false = true from z)⟩
  have := hr.un
  show (A.deeper (LamX.lamEnv X scope s.heap.objs.size f c')).units + 70 < cLine
  omega
theorem dLam_ok {x : Str} {args : List Expr} (h : EvOk v) (c : CtxOk d.C X fr W Φ) (hlam : d.C.lam = true) (hg : d.C.sc.names.lookup x = some .globalImplicit) (ht : d.C.tb x = some .tried) (hd : (x == ("__debug__" : Str)) = false) :
    PE X (.Call (.Name x p) args [] pos) (LE fr W Φ (dLam v d args)) := by
  unfold dLam
  split
  · rename_i params body scope lp
    split
    · rename_i hok
      obtain ⟨h1, h2⟩ := Bool.and_eq_true_iff.mp hok
      have hp := noPar_is h1
      subst hp
      obtain ⟨k, k2, r, rl, hf⟩ := c.rm
      obtain ⟨⟨ca, P, hcode, TB, mem, one⟩, tri⟩ := c.tri hlam
      obtain ⟨C, g, a, pg, bg, sg, dV, kV, doc, pm, cdv, ct, oc, an, od, osl, Ng, hm, hk, lk, hcg, bi, Sg, hNg, hva, hda, hcda, hC, hG⟩ := (tri x ht).ex
      have L : LamX.LamS X.env.scope scope := by rw [c.sc]; exact LamX.lamS_by h2
      refine PE.imp (pe_lamN (k := k) (T := fr.T) (TT := TTried C) (t := tDeed fr Φ (v.e (d.lamb scope) false body)) (show X.env.scope.names.lookup x = _ by rw [c.sc]; exact hg) hm hk lk hcg bi Sg hNg hva (hG X rfl rfl rfl rfl rfl _) TB hcode mem one (rl hlam) L rfl (fun _ _ _ _ _ => rfl)
        (fun A outer s H E f c' hr => ⟨fun pins s' σ H' Q I ⟨H0, F0, B0, q⟩ => (pe_frz (h.e (d.lamb scope) false body _ _ _ _ (c.lamb k2 hr hf))).run pins s' σ H' Q I q⟩) hd hda hcda) fun σ H Q q => tried_res (by rw [← c.mg]; exact hC) (share q)
    · exact pe_no
  · exact pe_no
theorem dCall_ok {x : Str} {args : List Expr} (h : EvOk v) (c : CtxOk d.C X fr W Φ) : PE X (.Call (.Name x p) args [] pos) (LE fr W Φ (dCall v d x args)) := by
  unfold dCall
  split
  · rename_i hk
    obtain ⟨hd, _⟩ := okN_d hk
    split
    · rename_i hg
      split
      · rename_i k ar ht
        split
        · exact pe_no
        · rename_i a es
          split
          · rename_i hs
            split
            · rename_i hl
              obtain ⟨h1, h2⟩ := Bool.and_eq_true_iff.mp (show (noStar a && noStars es) = true from hs)
              have key : PE X (.Call (.Name x p) (a :: es) [] pos) (LE fr W Φ (mCall k (mArgs ((a :: es).map (v.e d false))))) :=
                pe_callG c (gloB_g hg) ht hl hd (pa_map h c hs) (by rw [List.length_map]; exact hl) (star_ok h1 es X.env) (star_any h2)
              split
              · exact pe_bag key
              · exact pe_auto key
            · exact pe_no
          · exact pe_no
      · split
        · rename_i hlam
          exact dLam_ok h c hlam (gloB_g hg) (by assumption) hd
        · exact pe_no
      · exact pe_no
      · exact dBi_ok h c hg
    · exact pe_no
  · exact pe_no
theorem few1 {b : Expr} (h : noStar b = true) (env : Env) : ((backTo cp (starEach [b] env)).all (fun x => !x.1) && (backToKw cp (keywordEach [] env)).all (fun x => x.1.isSome) && decide ([b].length + ([] : List Keyword).length + (if ([] : List Keyword).isEmpty then 0 else 1) < 30)) = true := by
  rw [star_all (es := [b]) (by simp [noStars, h])]
  rfl
theorem dMeth_ok {o : Expr} {m : Str} {args : List Expr} (h : EvOk v) (c : CtxOk d.C X fr W Φ) : PE X (.Call (.Attribute o m ap) args [] cp) (LE fr W Φ (dMeth v d o m ap cp args)) := by
  unfold dMeth
  split
  · rename_i x px
    split
    · rename_i hm
      simp at hm
      subst hm
      split
      · split
        · rename_i a
          split
          · rename_i hs
            split
            · rename_i hl
              exact pe_bagPop (dName_ok c) (h.e d _ _ X fr W Φ c) (star_ok hs [] X.env) (by rfl) (few1 hs X.env) hl
            · exact pe_no
          · exact pe_no
        · exact pe_no
      · exact pe_no
    · exact pe_no
  · exact pe_no
/-! ### stores -/
theorem as_map {e : Expr} (h : noStar e = true) (es : List Expr) (env : Env) : (assignEach (e :: es) env).map (·.2) = assign e env :: (assignEach es env).map (·.2) := by
  cases e <;> first | rfl | cases h
theorem as_len {env : Env} : ∀ es : List Expr, (assignEach es env).length = es.length
  | [] => rfl
  | e :: r => by
    have ih := as_len (env := env) r
    cases e <;> exact congrArg Nat.succ ih
theorem as_any {env : Env} : ∀ {es : List Expr}, noStars es = true → (assignEach es env).findIdx? (·.1) = none
  | [], _ => rfl
  | e :: r, h => by
    obtain ⟨h1, h2⟩ := Bool.and_eq_true_iff.mp (show (noStar e && noStars r) = true from h)
    have ih := as_any (env := env) h2
    have e1 : assignEach (e :: r) env = (false, assign e env) :: assignEach r env := by
      cases e <;> first | rfl | cases h1
    rw [e1, List.findIdx?_cons]
    simp [ih]
theorem dTg_ok (c : CtxOk d.C X fr W Φ) : ∀ {n : Nat} {tg : Expr} {t : Tg}, dTg n d tg = some t → PG X tg (LG fr t)
  | 0, _, _, e => by cases e
  | n + 1, tg, t, e => by
    unfold dTg at e
    split at e
    · split at e
      · rename_i x px hs
        cases hi : idx d.C.N x with
        | none => rw [hi] at e; cases e
        | some i => rw [hi] at e; cases e; exact pg_nameG c (idx_at hi) hs
      · cases e
    · split at e
      · rename_i es k p' hs
        cases hm : mapO (dTg n d) es with
        | none => rw [hm] at e; cases e
        | some ts =>
          rw [hm] at e; cases e
          have key : ∀ {es : List Expr} {ts : List Tg}, noStars es = true → mapO (dTg n d) es = some ts → PGs X es (LGs fr ts) ∧ ts.length = es.length := by
            intro es
            induction es with
            | nil => intro ts _ h; cases h; exact ⟨pgs_nilG, rfl⟩
            | cons e r ih =>
              intro ts hs h
              obtain ⟨h1, h2⟩ := Bool.and_eq_true_iff.mp (show (noStar e && noStars r) = true from hs)
              unfold mapO at h
              cases h3 : dTg n d e with
              | none => rw [h3] at h; cases h
              | some t =>
                rw [h3] at h
                cases h4 : mapO (dTg n d) r with
                | none => rw [h4] at h; cases h
                | some l =>
                  rw [h4] at h; cases h
                  obtain ⟨q1, q2⟩ := ih h2 h4
                  exact ⟨pgs_consG (dTg_ok c h3) q1 (as_map h1 r X.env), by simp [q2]⟩
          obtain ⟨q1, q2⟩ := key hs hm
          exact pg_tupG c q1 q2 (as_len es) (as_any hs)
      · cases e
    · cases e
/-! ### the context of a comprehension's block -/
theorem CtxOk.blk {scope : Scope} (c : CtxOk d.C X fr W Φ) (F0 : Hp) (B0 : List Addr) (s : Shared) (H : Hp) (Cc : Addr) (cl : List (Str × Addr)) (fp : List Addr) :
    CtxOk (d.blk scope).C (X.blk s H scope (compEnvC scope cl Cc X.env) fp) ⟨fr.mg, fr.T, fr.H0, F0, B0⟩ W0 Φ := by
  have hsc : (compEnvC scope cl Cc X.env).scope = relS scope d.C.sc := by rw [← c.sc]; rfl
  refine ⟨c.N, c.nd, hsc, fun x h => ?_, c.calm, c.mg, c.units, takes0N, c.gint, c.free, ?_, fun x h => ⟨(c.exc x h).ex⟩, fun x h => ⟨(c.exc1 x h).ex⟩, fun z => nomatch z⟩
  rotate_left
  · obtain ⟨k, k2, r, _, hf⟩ := c.rm
    exact ⟨k, k2, r, (fun z => nomatch z), fun x f n h => ⟨(hf x f n h).ex⟩⟩
  have h' : (match (relS scope d.C.sc).names.lookup x with
    | some .local => true
    | some .cell => scope.names.lookup x == some .cell
    | _ => false) = true := h
  show Loc (compEnvC scope cl Cc X.env).scope x ∧ ((scope.names.lookup x == some .cell) = true ∨ (compEnvC scope cl Cc X.env).scope.names.lookup x = some .local)
  rw [hsc]
  split at h'
  · exact ⟨.inl (by assumption), .inr (by assumption)⟩
  · exact ⟨.inr (by assumption), .inl h'⟩
  · cases h'
theorem dIfs_ok {scope : Scope} {ifs : List Expr} (h : EvOk v) (c : CtxOk d.C X fr W Φ) (s : Shared) (H : Hp) (Cc : Addr) (cl : List (Str × Addr)) (fp : List Addr) :
    PTs (X.blk s H scope (compEnvC scope cl Cc X.env) fp) ifs (LBx fr Φ (dIfs v (d.blk scope) ifs)) := by
  unfold dIfs
  split
  · exact ⟨fun pins s σ H Q I ⟨F0, B0, w, A, r⟩ => pts_nil.run pins s σ H Q I (r.here A rfl)⟩
  · rename_i e
    exact pts_one ⟨fun pins s' σ H' Q I ⟨F0, B0, q⟩ => (h.t (d.blk scope) e _ _ _ _ (c.blk F0 B0 s H Cc cl fp)).run pins s' σ H' Q I q⟩
  · exact ⟨fun pins s σ H Q I ⟨F0, B0, w, A, r⟩ => r.elim⟩
theorem dLc_ok {elt : Expr} {gens : List Comprehension} {scope : Scope} (h : EvOk v) (c : CtxOk d.C X fr W Φ) : PE X (.ListComp elt gens scope pos) (LE fr W Φ (dLc v d elt gens scope)) := by
  unfold dLc
  split
  · rename_i tg iter ifs
    split
    · rename_i t ht
      split
      · rename_i hset
        split
        · rename_i hb
          split
          · rename_i hix
            have ok : BlkOk X.N X.env.scope scope (ownOf d.C.N scope) := by rw [c.N, c.sc]; exact blkOk_by hb
            refine PE.imp (pe_lc c.calm c.nd (h.i d tg iter X fr W Φ c) ok (g := LGx fr t) (tt := LBx fr Φ (dIfs v (d.blk scope) ifs)) (te := LVx fr Φ (v.e (d.blk scope) false elt)) ?_ ?_ ?_ (notSet_f hset X.env)) fun σ H Q q => comp_look ?_ q
            · intro s H Cc cl fp
              exact ⟨fun pins s' σ H' v' u Q I r ⟨F0, B0, q⟩ => (dTg_ok (c.blk F0 B0 s H Cc cl fp) ht).run pins s' σ H' v' u Q I r q⟩
            · intro s H Cc cl fp
              exact dIfs_ok h c s H Cc cl fp
            · intro s H Cc cl fp
              exact ⟨fun pins s' σ H' Q I ⟨F0, B0, q⟩ => (pe_frz (h.e (d.blk scope) false elt _ _ _ _ (c.blk F0 B0 s H Cc cl fp))).run pins s' σ H' Q I q⟩
            · intro i hi
              have := List.all_eq_true.mp hix i hi
              simpa using this
          · exact pe_no
        · exact pe_no
      · exact pe_no
    · exact pe_no
  · exact pe_no
theorem stepE_ok {b : Bool} {e : Expr} (h : EvOk v) (c : CtxOk d.C X fr W Φ) : PE X e (LE fr W Φ (stepE v d b e)) := by
  unfold stepE
  split
  · exact dConst_ok
  · exact dName_ok c
  · split
    · rename_i f hf
      exact dOp_ok hf (h.e d _ _ X fr W Φ c) (h.e d _ _ X fr W Φ c)
    · exact pe_no
  · exact peA_not (h.e d _ _ X fr W Φ c)
  · exact pe_un1 un_neg vs_neg (h.e d _ _ X fr W Φ c)
  · exact dBo_ok h c _
  · exact dCmp_ok h c
  · exact ptA_ife (h.t d _ X fr W Φ c) (h.e d _ _ X fr W Φ c) (h.e d _ _ X fr W Φ c)
  · split
    · rename_i hs; exact pe_tupG (pa_map h c hs)
    · exact pe_no
  · split
    · rename_i hs; exact pe_lstG (pa_map h c hs)
    · exact pe_no
  · exact dSub_ok h c
  · exact pe_newD
  · exact dCall_ok h c
  · exact dMeth_ok h c
  · exact dLc_ok h c
  · exact pe_no
theorem stepT_ok {e : Expr} (h : EvOk v) (c : CtxOk d.C X fr W Φ) : PT X e (LB fr W Φ (stepT v d e)) := by
  unfold stepT
  split
  · exact ptA_not (h.t d _ X fr W Φ c)
  · exact pt_no
  · exact (dBw_ok h c _).pt
  · exact dCmpT_ok h c
  · exact pt_no
  · rename_i h1 h2 h3 h4 h5
    refine pt_valG (h.e d _ _ X fr W Φ c) (notTest_t ?_ X.env)
    cases e <;> first | rfl | (exfalso; first | exact h2 _ _ _ rfl | exact h3 _ _ _ rfl | exact h4 _ _ _ _ rfl | exact h5 _ _ _ _ rfl)
theorem isTupE_is {tg : Expr} (h : isTupE tg = true) : ∃ es k p, tg = .Tuple es k p := by
  cases tg <;> first | exact ⟨_, _, _, rfl⟩ | cases h
theorem dIt_ok {tg : Expr} {x : Str} {args : List Expr} (h : EvOk v) (c : CtxOk d.C X fr W Φ) : PI X tg (.Call (.Name x p) args [] pos) (LI fr W Φ (dIt v d tg x args (.Call (.Name x p) args [] pos))) := by
  have dflt : PI X tg (.Call (.Name x p) args [] pos) (LI fr W Φ (mSeqI (v.e d false (.Call (.Name x p) args [] pos)))) := pi_seqG (h.e d _ _ X fr W Φ c)
  unfold dIt
  split
  · rename_i hg
    obtain ⟨hg, _⟩ := Bool.and_eq_true_iff.mp hg
    split
    · rename_i hx
      simp at hx
      subst hx
      split
      · rename_i a
        split
        · rename_i hs
          exact pi_range1G c (gloB_g hg) (pa_map h c (es := [a]) (by simp [noStars, hs])) (star_ok hs [] X.env)
        · exact pi_no
      · rename_i a b
        split
        · rename_i hs
          have hs' : (noStar a && (noStar b && true)) = true := hs
          simp only [Bool.and_true, Bool.and_eq_true] at hs'
          exact pi_range2G c (gloB_g hg) (pa_map h c (es := [a, b]) hs) (by rw [star_ok hs'.1, star_ok hs'.2]; rfl) (star_ok hs'.2 [] X.env)
        · exact pi_no
      · exact pi_no
    · split
      · rename_i hx
        simp at hx
        subst hx
        split
        · rename_i a
          split
          · rename_i hs
            obtain ⟨h1, h2⟩ := Bool.and_eq_true_iff.mp hs
            obtain ⟨es, k, p', rfl⟩ := isTupE_is h2
            exact pi_enumG c (gloB_g hg) (pa_map h c (es := [a]) (by simp [noStars, h1])) (star_ok h1 [] X.env)
          · exact pi_no
        · exact pi_no
      · split
        · rename_i hx
          simp at hx
          subst hx
          split
          · rename_i a b
            split
            · rename_i hs
              obtain ⟨h1, h2⟩ := Bool.and_eq_true_iff.mp hs
              obtain ⟨es, k, p', rfl⟩ := isTupE_is h2
              have hs' : (noStar a && (noStar b && true)) = true := h1
              simp only [Bool.and_true, Bool.and_eq_true] at hs'
              exact pi_zipG c (gloB_g hg) (pa_map h c (es := [a, b]) h1) (star_ok hs'.1 [b] X.env) (star_any (es := [b]) (by simp [noStars, hs'.2]))
            · exact pi_no
          · exact pi_no
        · exact dflt
  · exact dflt
theorem stepI_ok {tg e : Expr} (h : EvOk v) (c : CtxOk d.C X fr W Φ) : PI X tg e (LI fr W Φ (stepI v d tg e)) := by
  unfold stepI
  split
  · exact dIt_ok h c
  · exact pi_seqG (h.e d _ _ X fr W Φ c)
end
theorem den_ok : ∀ n, EvOk (den n)
  | 0 => ⟨fun _ _ _ _ _ _ _ _ => pe_no, fun _ _ _ _ _ _ _ => pt_no, fun _ _ _ _ _ _ _ _ => pi_no⟩
  | n + 1 => ⟨fun _ _ _ _ _ _ _ c => stepE_ok (den_ok n) c, fun _ _ _ _ _ _ c => stepT_ok (den_ok n) c, fun _ _ _ _ _ _ _ c => stepI_ok (den_ok n) c⟩
end DL
end

section
set_option Elab.async false
set_option linter.all false
set_option maxRecDepth 100000
set_option autoImplicit false
set_option maxHeartbeats 1000000
/-! DL19: statements. -/
namespace DL
open PySem PySem.Spec PyProof.Rows L2

def pureOf {α : Type} : Sem α → Option α
  | .pure a => some a
  | _ => none
theorem pureOf_eq {α : Type} {x : Sem α} {a : α} (h : pureOf x = some a) : x = Pure.pure a := by
  cases x <;> first | (cases h; rfl) | cases h
def envD (sc : Scope) : Env := ⟨sc, 0, 0, [], Str.empty, none, .none, none, 0⟩
theorem sw_env (e : Expr) (t : Option Expr) (l : Nat) (env : Env) : swapsWith e t l env = swapsWith e t l (envD env.scope) := rfl
theorem sws_env (ts : List Expr) (e : Expr) (l : Nat) (env : Env) : swapsWithSole ts e l env = swapsWithSole ts e l (envD env.scope) := by
  unfold swapsWithSole
  split <;> rfl
theorem ss_env (ts : List Expr) (e : Expr) (env : Env) : swappedStores ts e env = swappedStores ts e (envD env.scope) := rfl
def notComp : Expr → Bool
  | .ListComp .. => false
  | .SetComp .. => false
  | .DictComp .. => false
  | _ => true
theorem notComp_sw {e : Expr} (h : notComp e = true) (t : Option Expr) (l : Nat) (env : Env) : swapsWith e t l env = Pure.pure false := by
  cases e <;> first | rfl | cases h
/-- the context of statements -/
structure CtxS (C : Cs) (X : Cx) (fr : Fr) (W : WX) (Φ : PhiT) : Prop where
  c : CtxOk C X fr W Φ
  hp : PassesOwn (model X.prog X.w) X.A X.env X.xe
theorem CtxS.re {C : Cs} {X : Cx} {fr : Fr} {W : WX} {Φ : PhiT} (c : CtxS C X fr W Φ) (F0 : Hp) (B0 : List Addr) : CtxS C X ⟨fr.mg, fr.T, fr.H0, F0, B0⟩ W Φ :=
  ⟨⟨c.c.N, c.c.nd, c.c.sc, c.c.st, c.c.calm, c.c.mg, c.c.units, c.c.takes, c.c.gint, c.c.free, c.c.rm, c.c.exc, c.c.exc1, c.c.tri⟩, c.hp⟩
theorem ps_no {X : Cx} {fr : Fr} {W : WX} {Φ : PhiT} {st : Stmt} : PS X st (LS fr W Φ M.no) := ⟨fun _ _ _ _ _ _ ⟨_, _, r⟩ => r.elim⟩
def isLocB (sc : Scope) (x : Str) : Bool := match sc.names.lookup x with
  | some .local => true
  | _ => false
theorem isLocB_l {sc : Scope} {x : Str} (h : isLocB sc x = true) : sc.names.lookup x = some .local := by
  unfold isLocB at h
  split at h <;> first | assumption | cases h

def dBl (f : Stmt → M Fl) : List Stmt → M Fl
  | [] => mSkip
  | [st] => f st
  | st :: r => mSeq (f st) (dBl f r)
def dSetN (v : Ev) (d : Dx) (x : Str) (p : Pos) (e : Expr) (pos : Pos) : M Fl :=
  if d.C.st x = true then (match idx d.C.N x with
    | some i => (match pureOf (swapsWith e (some (.Name x p)) pos.line (envD d.C.sc)) with
      | some false => mAsg i (if d.bv x = true then mBag (v.e d false e) else v.e d false e)
      | some true => (match e with
        | .ListComp elt gens scope _ => if isLocB d.C.sc x = true then (if d.bv x = true then M.no else mAsg i (dLc v d elt gens scope)) else M.no
        | _ => M.no)
      | none => M.no)
    | none => M.no) else M.no
def dAsgT (v : Ev) (d : Dx) (t e : Expr) : M Fl := match dTg 6 d t with
  | some tg => if noStar t = true then mAsgT tg (v.e d false e) else M.no
  | none => M.no
def dPar (v : Ev) (d : Dx) (l : List Str) : List Expr → List Expr → M Fl
  | [.Name x _, .Name y _], [a, b] => (match idx d.C.N x, idx d.C.N y with
    | some i, some j => if (decide (l = [x, y]) && (isLocB d.C.sc x && (isLocB d.C.sc y && (noStars [a, b] && decide (i ≠ j))))) = true then mPar [i, j] (mRs [v.e d false a, v.e d false b]) else M.no
    | _, _ => M.no)
  | [.Name x _, .Name y _, .Name z _], [a, b, c] => (match idx d.C.N x, idx d.C.N y, idx d.C.N z with
    | some i, some j, some k => if (decide (l = [x, y, z]) && (isLocB d.C.sc x && (isLocB d.C.sc y && (isLocB d.C.sc z && (noStars [a, b, c] && (decide (i ≠ j) && (decide (i ≠ k) && decide (j ≠ k)))))))) = true then mPar [i, j, k] (mRs [v.e d false a, v.e d false b, v.e d false c]) else M.no
    | _, _, _ => M.no)
  | _, _ => M.no
def dNames (d : Dx) : List Expr → Option (List Nat)
  | [] => some []
  | .Name x _ :: r => if d.C.st x = true then (match idx d.C.N x, dNames d r with
    | some i, some l => some (i :: l)
    | _, _ => none) else none
  | _ => none
def dParT (v : Ev) (d : Dx) (es : List Expr) (k : Nat) (p : Pos) : Expr → M Fl
  | .Tuple vs k2 p2 => (match dNames d es with
    | some is => if (decide (vs.length = es.length) && (noStars vs && (noStars es && decide (vs.length ≤ 100)))) = true then mPar is (mRs (vs.map (v.e d false))) else M.no
    | none => dAsgT v d (.Tuple es k p) (.Tuple vs k2 p2))
  | e => dAsgT v d (.Tuple es k p) e
def dAsgS (v : Ev) (d : Dx) (a i : Expr) (q : Pos) (e : Expr) (pos : Pos) : M Fl := match a with
  | .Name x p => if d.dv x = true then (if (okN x && (visB d.C.sc x && notSl i)) = true then (match idx d.C.N x, pureOf (swapsWith e (some (.Subscript (.Name x p) i q)) pos.line (envD d.C.sc)) with
      | some k, some false => mDPut k (v.e d true i) (v.e d false e)
      | _, _ => M.no) else M.no)
    else (match pureOf (swapsWithSole [.Subscript (.Name x p) i q] e pos.line (envD d.C.sc)), pureOf (swappedStores [.Subscript (.Name x p) i q] e (envD d.C.sc)) with
      | some false, some none => if notSl i = true then mBagPut (v.e d true (.Name x p)) (v.e d true i) (v.e d false e) else M.no
      | _, _ => M.no)
  | _ => M.no
def dAsg (v : Ev) (d : Dx) (t e : Expr) (pos : Pos) : M Fl := match t with
  | .Name x p => dSetN v d x p e pos
  | .Tuple es k p => (match pureOf (swapsWithSole [.Tuple es k p] e pos.line (envD d.C.sc)), pureOf (swappedStores [.Tuple es k p] e (envD d.C.sc)) with
    | some false, some none => dParT v d es k p e
    | some false, some (some l) => (match e with
      | .Tuple vs _ _ => dPar v d l es vs
      | _ => M.no)
    | _, _ => M.no)
  | .Subscript a i q => dAsgS v d a i q e pos
  | _ => M.no
def dRet (v : Ev) (d : Dx) : Option Expr → M Fl
  | none => mRet (mC .non)
  | some (.Name x _) => if (okN x && visB d.C.sc x) = true then (match idx d.C.N x with
    | some i => mRetV i
    | none => M.no) else mRet (dName d false x)
  | some e => mRet (v.e d false e)
def dEx (v : Ev) (d : Dx) (e : Expr) : M Fl := if notComp e = true then mDrop (v.e d false e) else M.no
def dExpr (v : Ev) (d : Dx) : Expr → M Fl
  | .Call (.Attribute (.Name x p2) m ap) [a] [] cp => if (m == ("append" : Str)) = true then
      (if (okN x && (visB d.C.sc x && (noStar a && (ap.endLine == cp.line)))) = true then (match idx d.C.N x with
        | some i => mAppend i (v.e d false a)
        | none => M.no) else M.no)
    else dEx v d (.Call (.Attribute (.Name x p2) m ap) [a] [] cp)
  | e => dEx v d e
def dRaise (v : Ev) (d : Dx) (x : Str) (args : List Expr) : M Fl := if (okN x && gloB d.C.sc x) = true then (match d.C.tb x with
    | some .exc => (match args with
      | [.Constant (.str _) _ _] => mRaise x
      | _ => M.no)
    | some .exc1 => (match args with
      | [e] => if noStars [e] = true then mRaise1 x (mArgs ([e].map (v.e d false))) else M.no
      | _ => M.no)
    | _ => M.no) else M.no
def stepS (v : Ev) (f : Stmt → M Fl) (d : Dx) : Stmt → M Fl
  | .Pass _ => mSkip
  | .Return o _ => dRet v d o
  | .If c a b _ => mIf (v.t d c) (dBl f a) (dBl f b)
  | .Expr e _ => dExpr v d e
  | .Assign [t] e pos => dAsg v d t e pos
  | .For tg it body [] _ => (match dTg 6 d tg with
    | some t => if notSet it = true then mFor (v.i d tg it) t (dBl f body) else M.no
    | none => M.no)
  | .While c body [] _ => mWhile (v.t d c) (dBl f body)
  | .Raise (some (.Call (.Name x _) args [] _)) none _ => dRaise v d x args
  | _ => M.no
def denS (v : Ev) (d : Dx) : Nat → Stmt → M Fl
  | 0, _ => M.no
  | n + 1, st => stepS v (denS v d n) d st
section
variable {v : Ev} {d : Dx} {X : Cx} {fr : Fr} {W : WX} {Φ : PhiT} {pos p ap cp : Pos}
theorem swq {X : Cx} {e : Expr} {t : Option Expr} {l : Nat} {b : Bool} (c : CtxOk d.C X fr W Φ) (h : pureOf (swapsWith e t l (envD d.C.sc)) = some b) : swapsWith e t l X.env = Pure.pure b := by
  rw [sw_env, c.sc]; exact pureOf_eq h
theorem swsq {X : Cx} {e : Expr} {t : List Expr} {l : Nat} {b : Bool} (c : CtxOk d.C X fr W Φ) (h : pureOf (swapsWithSole t e l (envD d.C.sc)) = some b) : swapsWithSole t e l X.env = Pure.pure b := by
  rw [sws_env, c.sc]; exact pureOf_eq h
theorem ssq {X : Cx} {e : Expr} {t : List Expr} {b : Option (List Str)} (c : CtxOk d.C X fr W Φ) (h : pureOf (swappedStores t e (envD d.C.sc)) = some b) : swappedStores t e X.env = Pure.pure b := by
  rw [ss_env, c.sc]; exact pureOf_eq h
theorem dSetN_ok {x : Str} {e : Expr} (h : EvOk v) (c : CtxOk d.C X fr W Φ) : PS X (.Assign [.Name x p] e pos) (LS fr W Φ (dSetN v d x p e pos)) := by
  unfold dSetN
  split
  · rename_i hs
    split
    · rename_i i hi
      split
      · rename_i hw
        refine ps_setG c (idx_at hi) hs ?_ (swq c hw)
        split
        · exact pe_bag (h.e d _ _ X fr W Φ c)
        · exact h.e d _ _ X fr W Φ c
      · rename_i hw
        split
        · rename_i elt gens scope lp
          split
          · rename_i hl
            split
            · exact ps_no
            · unfold dLc
              split
              · rename_i tg iter ifs
                split
                · rename_i t ht
                  split
                  · rename_i hset
                    split
                    · rename_i hb
                      split
                      · rename_i hix
                        have ok : BlkOk X.N X.env.scope scope (ownOf d.C.N scope) := by rw [c.N, c.sc]; exact blkOk_by hb
                        refine PS.imp (ps_setLc (i := i) c.calm c.nd (by rw [c.N]; exact idx_at hi) (by rw [c.sc]; exact isLocB_l hl) (swq c hw) (h.i d tg iter X fr W Φ c) ok (g := LGx fr t) (tt := LBx fr Φ (dIfs v (d.blk scope) ifs)) (te := LVx fr Φ (v.e (d.blk scope) false elt)) ?_ ?_ ?_ (notSet_f hset X.env)) fun D σ H q => ?_
                        · intro s H Cc cl fp
                          exact ⟨fun pins s' σ H' v' u Q I r ⟨F0, B0, q⟩ => (dTg_ok (c.blk F0 B0 s H Cc cl fp) ht).run pins s' σ H' v' u Q I r q⟩
                        · intro s H Cc cl fp
                          exact dIfs_ok h c s H Cc cl fp
                        · intro s H Cc cl fp
                          exact ⟨fun pins s' σ H' Q I ⟨F0, B0, q⟩ => (pe_frz (h.e (d.blk scope) false elt _ _ _ _ (c.blk F0 B0 s H Cc cl fp))).run pins s' σ H' Q I q⟩
                        · obtain ⟨w, A, r⟩ := q
                          refine comp_look (fr := fr) (W := W) (Φ := Φ) (fun k hk => by simpa using List.all_eq_true.mp hix k hk) ⟨w, A, (ResS.bind (Rel := RelR σ) r).imp ?_⟩
                          exact fun v H1 h => asg_res A h
                      · exact ps_no
                    · exact ps_no
                  · exact ps_no
                · exact ps_no
              · exact ps_no
          · exact ps_no
        · exact ps_no
      · exact ps_no
    · exact ps_no
  · exact ps_no
theorem as1 {t : Expr} (h : noStar t = true) (env : Env) : (assignEach [t] env).map (·.2) = [assign t env] := as_map h [] env
theorem dAsgT_ok {t e : Expr} (h : EvOk v) (c : CtxOk d.C X fr W Φ) (h1 : pureOf (swapsWithSole [t] e pos.line (envD d.C.sc)) = some false) (h2 : pureOf (swappedStores [t] e (envD d.C.sc)) = some none) : PS X (.Assign [t] e pos) (LS fr W Φ (dAsgT v d t e)) := by
  unfold dAsgT
  split
  · rename_i tg ht
    split
    · rename_i hs
      exact ps_asgT (h.e d _ _ X fr W Φ c) (dTg_ok c ht) (swsq c h1) (ssq c h2) (as1 hs X.env)
    · exact ps_no
  · exact ps_no
theorem pr_map {b : Bool} (h : EvOk v) (c : CtxOk d.C X fr W Φ) : ∀ {es : List Expr}, noStars es = true → PA X es (LRs fr W Φ (mRs (es.map (v.e d b))))
  | [], _ => pa_nilR
  | e :: r, hs => by
    obtain ⟨h1, h2⟩ := Bool.and_eq_true_iff.mp (show (noStar e && noStars r) = true from hs)
    exact pa_consR (h.e d _ _ X fr W Φ c) (pr_map h c h2) (star_ok h1 r X.env)
theorem dPar_ok {es vs : List Expr} {l : List Str} {k k2 : Nat} {p2 : Pos} (h : EvOk v) (c : CtxOk d.C X fr W Φ) (h1 : pureOf (swapsWithSole [.Tuple es k p] (.Tuple vs k2 p2) pos.line (envD d.C.sc)) = some false) (h2 : pureOf (swappedStores [.Tuple es k p] (.Tuple vs k2 p2) (envD d.C.sc)) = some (some l)) :
    PS X (.Assign [.Tuple es k p] (.Tuple vs k2 p2) pos) (LS fr W Φ (dPar v d l es vs)) := by
  unfold dPar
  split
  · split
    · rename_i i j hi hj
      split
      · rename_i hc
        simp only [Bool.and_eq_true, decide_eq_true_eq] at hc
        obtain ⟨rfl, q1, q2, q3, q4⟩ := hc
        exact ps_par2G c (idx_at hi) (idx_at hj) q4 (isLocB_l q1) (isLocB_l q2) (pr_map h c q3) (ssq c h2) (swsq c h1)
      · exact ps_no
    · exact ps_no
  · split
    · rename_i i j k hi hj hk
      split
      · rename_i hc
        simp only [Bool.and_eq_true, decide_eq_true_eq] at hc
        obtain ⟨rfl, q1, q2, q3, q4, q5, q6, q7⟩ := hc
        exact ps_par3G c (idx_at hi) (idx_at hj) (idx_at hk) q5 q6 q7 (isLocB_l q1) (isLocB_l q2) (isLocB_l q3) (pr_map h c q4) (ssq c h2) (swsq c h1)
      · exact ps_no
    · exact ps_no
  · exact ps_no
theorem RelR.push {σ : L2.St} {H H1 : Hp} {w1 : Wl} {u : V} {r : R} {q : Addr} {o : HO} (hq : H1 q = none) (R : RelR σ H H1 w1 u r) : RelR σ H (upd H1 q o) w1 u r := by
  have kp : ∀ {a : Addr} {x : HO}, H1 a = some x → upd H1 q o a = some x := fun h => by rw [upd_ne (ne_of_none h hq)]; exact h
  cases r with
  | val d => exact R
  | bor d =>
    cases R with
    | rep R => exact .rep R
    | lst h b r => exact .lst (kp h) b r
    | dK h b r => exact .dK (kp h) b r
  | own c =>
    obtain ⟨a, e, h1, h2, h3, h4, x, h5, h6⟩ := R
    exact ⟨a, e, h1, h2, h3, h4, x, kp h5, h6⟩
theorem RelRs.push {σ : L2.St} {H H1 : Hp} {w1 : Wl} {q : Addr} {o : HO} (hq : H1 q = none) : ∀ {us : List V} {rs : List R}, RelRs σ H H1 w1 us rs → RelRs σ H (upd H1 q o) w1 us rs
  | _, _, .nil => .nil
  | _, _, .cons R d t => .cons (R.push hq) d (RelRs.push hq t)
theorem pgs_names (c : CtxOk d.C X fr W Φ) : ∀ {es : List Expr} {is : List Nat}, dNames d es = some is → PGs X es (fun vs σ H Q => vs.length = is.length ∧ Q (setsV σ is vs) H)
  | [], is, h => by
    cases h
    exact ⟨fun pins s σ H vs us Q I r ⟨h1, h2⟩ => pgs_nil.run pins s σ H vs us Q I r (by
      cases vs with
      | nil => exact ⟨rfl, h2⟩
      | cons _ _ => cases h1)⟩
  | .Name x px :: r, is, h => by
    have h' : (if d.C.st x = true then (match idx d.C.N x, dNames d r with
      | some i, some l => some (i :: l)
      | _, _ => none) else none) = some is := h
    by_cases hs : d.C.st x = true
    · rw [if_pos hs] at h'
      cases hi : idx d.C.N x with
      | none => rw [hi] at h'; cases h'
      | some i =>
        cases hr : dNames d r with
        | none => rw [hi, hr] at h'; cases h'
        | some l =>
          rw [hi, hr] at h'
          cases h'
          obtain ⟨h1, h2⟩ := c.st x hs
          refine ⟨fun pins s σ H vs us Q I rv q => (pgs_cons (pg_name (i := i) c.nd (by rw [c.N]; exact idx_at hi) h1 h2) (pgs_names c hr) (as_map rfl r X.env)).run pins s σ H vs us Q I rv ?_⟩
          obtain ⟨q1, q2⟩ := q
          cases vs with
          | nil => cases q1
          | cons u us' => exact ⟨u, us', rfl, by simpa using q1, q2⟩
    · rw [if_neg hs] at h'; cases h'
  | .BoolOp .. :: _, _, h => by cases h
  | .NamedExpr .. :: _, _, h => by cases h
  | .BinOp .. :: _, _, h => by cases h
  | .UnaryOp .. :: _, _, h => by cases h
  | .Lambda .. :: _, _, h => by cases h
  | .IfExp .. :: _, _, h => by cases h
  | .Dict .. :: _, _, h => by cases h
  | .Set .. :: _, _, h => by cases h
  | .ListComp .. :: _, _, h => by cases h
  | .SetComp .. :: _, _, h => by cases h
  | .DictComp .. :: _, _, h => by cases h
  | .GeneratorExp .. :: _, _, h => by cases h
  | .Await .. :: _, _, h => by cases h
  | .Yield .. :: _, _, h => by cases h
  | .YieldFrom .. :: _, _, h => by cases h
  | .Compare .. :: _, _, h => by cases h
  | .Call .. :: _, _, h => by cases h
  | .FormattedValue .. :: _, _, h => by cases h
  | .JoinedStr .. :: _, _, h => by cases h
  | .Constant .. :: _, _, h => by cases h
  | .Attribute .. :: _, _, h => by cases h
  | .Subscript .. :: _, _, h => by cases h
  | .Starred .. :: _, _, h => by cases h
  | .List .. :: _, _, h => by cases h
  | .Tuple .. :: _, _, h => by cases h
  | .Slice .. :: _, _, h => by cases h
theorem dNames_len : ∀ {es : List Expr} {is : List Nat}, dNames d es = some is → is.length = es.length := by
  intro es
  induction es with
  | nil => intro is h; cases h; rfl
  | cons e r ih =>
    intro is h
    unfold dNames at h
    split at h
    · rename_i he; cases he
    · rename_i he
      cases he
      split at h
      · split at h
        · rename_i hl; cases h; simp [ih hl]
        · cases h
      · cases h
    · cases h
theorem dParT_ok {es : List Expr} {k : Nat} {e : Expr} (h : EvOk v) (c : CtxOk d.C X fr W Φ) (h1 : pureOf (swapsWithSole [.Tuple es k p] e pos.line (envD d.C.sc)) = some false) (h2 : pureOf (swappedStores [.Tuple es k p] e (envD d.C.sc)) = some none) :
    PS X (.Assign [.Tuple es k p] e pos) (LS fr W Φ (dParT v d es k p e)) := by
  unfold dParT
  split
  · rename_i vs k2 p2
    split
    · rename_i is hn
      split
      · rename_i hk
        simp only [Bool.and_eq_true, decide_eq_true_eq] at hk
        obtain ⟨k1, k2, k3, k4⟩ := hk
        refine PS.imp (ps_asg (pe_tup (pr_map h c k2)) (pg_tup c.calm (pgs_names c hn) (as_len es) (as_any k3)) (swsq c h1) (ssq c h2) (as1 rfl X.env)) fun D σ H ⟨w, A, r⟩ => ⟨w, A, (ResS.bind (Rel := RelRs σ) r).imp ?_⟩
        rintro us H1 ⟨rs, w1, A1, N1, R1, g1⟩
        have ul : us.length = is.length := by
          have g2 : ResS fr W D (match parR is rs w1.ρ with
            | some ρ' => .ok .nx ⟨ρ', w1.S⟩
            | none => .no) := g1
          cases ep : parR is rs w1.ρ with
          | none => rw [ep] at g2; exact g2.elim
          | some ρ' => exact R1.len.trans (parR_len ep).symm
        have il := dNames_len hn
        refine ⟨Nat.le_trans (show us.length ≤ 100 by omega) (by decide), fun q hq => ⟨q, us, rfl, .inl (.inl upd_same), by omega, ul, ?_⟩⟩
        exact (par_res (A := A) (vs := us) (is := is) ⟨rs, w1, A1.push hq, N1.trans (Nx.push hq), RelRs.push hq R1, g1⟩).2
      · exact ps_no
    · exact dAsgT_ok h c h1 h2
  · exact dAsgT_ok h c h1 h2
theorem dAsgS_ok {a i e : Expr} {q : Pos} (h : EvOk v) (c : CtxOk d.C X fr W Φ) : PS X (.Assign [.Subscript a i q] e pos) (LS fr W Φ (dAsgS v d a i q e pos)) := by
  unfold dAsgS
  split
  · split
    · split
      · rename_i hk
        simp only [Bool.and_eq_true] at hk
        obtain ⟨k1, k2, k3⟩ := hk
        obtain ⟨q1, q2⟩ := okN_d k1
        split
        · rename_i k hi hw
          exact ps_dputG c (idx_at hi) (visB_vis k2) q1 q2 (h.e d _ _ X fr W Φ c) (h.e d _ _ X fr W Φ c) (swq c hw)
        · exact ps_no
      · exact ps_no
    · split
      · rename_i h1 h2
        split
        · rename_i hs
          refine ps_bagPut (h.e d _ _ X fr W Φ c) (h.e d _ _ X fr W Φ c) (h.e d _ _ X fr W Φ c) (fun u => ?_) (swsq c h1) (ssq c h2) (as1 rfl X.env)
          cases i <;> first | rfl | cases hs
        · exact ps_no
      · exact ps_no
  · exact ps_no
theorem dAsg_ok {t e : Expr} (h : EvOk v) (c : CtxOk d.C X fr W Φ) : PS X (.Assign [t] e pos) (LS fr W Φ (dAsg v d t e pos)) := by
  unfold dAsg
  split
  · exact dSetN_ok h c
  · split
    · rename_i h1 h2
      exact dParT_ok h c h1 h2
    · rename_i l h1 h2
      split
      · exact dPar_ok h c h1 h2
      · exact ps_no
    · exact ps_no
  · exact dAsgS_ok h c
  · exact ps_no
theorem dRet_ok {o : Option Expr} (h : EvOk v) (c : CtxOk d.C X fr W Φ) : PS X (.Return o pos) (LS fr W Φ (dRet v d o)) := by
  unfold dRet
  split
  · exact ps_retNG
  · split
    · rename_i hk
      obtain ⟨h1, h2⟩ := Bool.and_eq_true_iff.mp hk
      obtain ⟨q1, q2⟩ := okN_d h1
      split
      · rename_i i hi
        exact ps_retVG c (idx_at hi) (visB_vis h2) q1 q2
      · exact ps_no
    · exact ps_retG (dName_ok c)
  · exact ps_retG (h.e d _ _ X fr W Φ c)
theorem dEx_ok {e : Expr} (h : EvOk v) (c : CtxOk d.C X fr W Φ) : PS X (.Expr e pos) (LS fr W Φ (dEx v d e)) := by
  unfold dEx
  split
  · rename_i hn
    exact ps_exprG (h.e d _ _ X fr W Φ c) (notComp_sw hn none pos.line X.env)
  · exact ps_no
theorem dExpr_ok {e : Expr} (h : EvOk v) (c : CtxOk d.C X fr W Φ) : PS X (.Expr e pos) (LS fr W Φ (dExpr v d e)) := by
  unfold dExpr
  split
  · split
    · rename_i hm
      simp at hm
      subst hm
      split
      · rename_i hk
        simp only [Bool.and_eq_true] at hk
        obtain ⟨h1, h2, h3, h4⟩ := hk
        obtain ⟨q1, q2⟩ := okN_d h1
        split
        · rename_i i hi
          exact ps_appendG c (idx_at hi) (visB_vis h2) q1 q2 (h.e d _ _ X fr W Φ c) (star_ok h3 [] X.env) (by rfl) (few1 h3 X.env) h4 (by rfl)
        · exact ps_no
      · exact ps_no
    · exact dEx_ok h c
  · exact dEx_ok h c
theorem dBl_ok {f : Stmt → M Fl} (hf : ∀ st, PS X st (LS fr W Φ (f st))) : ∀ l : List Stmt, PSs X l (LS fr W Φ (dBl f l))
  | [] => pss_nilG
  | [st] => pss_oneG (hf st)
  | st :: st' :: r => pss_consG (hf st) (dBl_ok hf (st' :: r))
theorem dRaise_ok {x : Str} {args : List Expr} {p3 : Pos} (h : EvOk v) (c : CtxOk d.C X fr W Φ) : PS X (.Raise (some (.Call (.Name x p) args [] p3)) none pos) (LS fr W Φ (dRaise v d x args)) := by
  unfold dRaise
  split
  · rename_i hok
    obtain ⟨h1, h2⟩ := Bool.and_eq_true_iff.mp hok
    obtain ⟨hd, _⟩ := okN_d h1
    split
    · rename_i ht
      split
      · exact ps_raise0 c (gloB_g h2) hd (c.exc x ht)
      · exact ps_no
    · rename_i ht
      split
      · rename_i e
        split
        · rename_i hs
          obtain ⟨k, k2, r, _, _⟩ := c.rm
          exact ps_raise1 c (gloB_g h2) hd (r.mono k2) (c.exc1 x ht) (pa_map h c hs) (star_ok (Bool.and_eq_true_iff.mp (show (noStar e && noStars []) = true from hs)).1 [] X.env)
        · exact ps_no
      · exact ps_no
    · exact ps_no
  · exact ps_no
theorem denS_ok (h : EvOk v) : ∀ (n : Nat) (st : Stmt) (fr : Fr), CtxS d.C X fr W Φ → PS X st (LS fr W Φ (denS v d n st))
  | 0, _, _, _ => ps_no
  | n + 1, st, fr, c => by
    have ih : ∀ (F0 : Hp) (B0 : List Addr) (l : List Stmt), PSs X l (LS ⟨fr.mg, fr.T, fr.H0, F0, B0⟩ W Φ (dBl (denS v d n) l)) := fun F0 B0 l => dBl_ok (fun st => denS_ok h n st _ (c.re F0 B0)) l
    show PS X st (LS fr W Φ (stepS v (denS v d n) d st))
    unfold stepS
    split
    · exact ps_passG
    · exact dRet_ok h c.c
    · exact ps_ifG (h.t d _ X fr W Φ c.c) (ih fr.F0 fr.B0 _) (ih fr.F0 fr.B0 _)
    · exact dExpr_ok h c.c
    · exact dAsg_ok h c.c
    · rename_i tg it body p
      split
      · rename_i t ht
        split
        · rename_i hs
          exact ps_forG c.hp c.c.calm (h.i d tg it X fr W Φ c.c) (fun F0 B0 => dTg_ok (c.re F0 B0).c ht) (fun F0 B0 => ih F0 B0 _) (notSet_f hs X.env)
        · exact ps_no
      · exact ps_no
    · exact ps_whileG c.hp (h.t d _ X fr W Φ c.c) (ih fr.F0 fr.B0 _)
    · exact dRaise_ok h c.c
    · exact ps_no
end
end DL
end

section
set_option Elab.async false
set_option linter.all false
set_option maxRecDepth 100000
set_option autoImplicit false
set_option maxHeartbeats 1000000
/-! DL20: the functions of the text. -/
namespace DL
open PySem PySem.Spec PyProof.Rows L2

/-- a def, as its meaning needs it -/
structure Df where
  ps : List Str
  N : List Str
  sc : Scope
  body : List Stmt
  lam : Bool
def Df.dx (d : Df) (tb : Str → Option GI) (bf bv dv : Str → Bool) : Dx := ⟨⟨d.N, d.sc, fun x => (match d.sc.names.lookup x with
  | some .local => true
  | some .cell => true
  | _ => false), tb, d.lam⟩, bf, bv, dv⟩
def Df.m (d : Df) (tb : Str → Option GI) (bf bv dv : Str → Bool) : M Fl := dBl (denS (den 40) (d.dx tb bf bv dv) 20) d.body
def ρ0 (sz : Nat) (ds : List D) : List (Option Slot) := ds.map (fun d => some (.val d)) ++ List.replicate (sz - ds.length) none
def outF : Out Fl → FOut
  | .ok (.ret (.val d)) s => .ok (.val d) s.S
  | .ok (.ret (.own c)) s => .ok (.own c) s.S
  | .ok .nx s => .ok (.val .non) s.S
  | .ex x s => .ex x s.S
  | _ => .no
def runF (sz : Nat) (m : M Fl) (Φ : PhiT) (ds : List D) (S : Store) : FOut := outF (m Φ ⟨ρ0 sz ds, S⟩)
/-- one def of the table: how many it takes, its slots, its body -/
structure Fe where
  ar : Nat
  sz : Nat
  m : M Fl
def Phi (df : Nat → Option Fe) : Nat → PhiT
  | 0 => fun _ _ _ => .no
  | n + 1 => fun f ds S => match df f with
    | some e => if ds.length = e.ar then runF e.sz e.m (Phi df n) ds S else .no
    | none => .no
/-- the def's code object and its table -/
structure LamAt (mg : Str → Option Value) (base : Heap) (T : List (Addr × Str)) (qual : Str) (fd : FuncData) : Prop where
  ex : ∃ (c P : Addr), fd.code = .ref c ∧ LamX.TabB base mg c P ∧ (P, qual ++ ".<locals>." ++ "<lambda>") ∈ T ∧ ∀ p ∈ T, p.1 = P → p.2 = qual ++ ".<locals>." ++ "<lambda>"
/-- where a def stands -/
structure DefAt (K : PySem.W.Frag) (mg : Str → Option Value) (base : Heap) (T : List (Addr × Str)) (x : Str) (d : Df) : Prop where
  ex : ∃ (fa : Addr) (fd : FuncData) (qual : Str) (params : Arguments), mg x = some (.ref fa) ∧ FunD K x qual params d.body d.sc [] [] fa fd ∧ Binds K fd d.ps [] ∧ FnScope d.N d.ps d.sc ∧ (d.lam = true → LamAt mg base T qual fd)
structure Wd (P : Program) (w : World) (K : PySem.W.Frag) (mg : Str → Option Value) (base : Heap) (T : List (Addr × Str)) (tb : Str → Option GI) (bf bv dv : Str → Bool) (df : Nat → Option Fe) : Prop where
  gint : ∀ x i, tb x = some (.int i) → ∃ t, mg x = some (.int i t)
  free : ∀ x ∈ bNames, mg x = none
  fns : ∀ x f n, tb x = some (.fn f n) → ∃ d : Df, DefAt K mg base T x d ∧ d.ps.length = n ∧ df f = some ⟨n, d.N.length, d.m tb bf bv dv⟩
  exc : ∀ x, tb x = some .exc → ∃ C : Addr, mg x = some (.ref C) ∧ PySem.W.excIn K C He.veBase "ValueError.__new__" = true ∧ PySem.W.keepIn K (.ref C) = true ∧ PySem.W.subIn K (.ref C) (.type "BaseException") = some true ∧ PySem.W.typeIn K (.ref C) = some (.type "type")
  exc1 : ∀ x, tb x = some .exc1 → ∃ (C fI : Addr) (fd : FuncData) (ps : List Str), mg x = some (.ref C) ∧ OexC K C ∧ PySem.W.findIn K (.ref C) "__init__" = some (some (.ref fI)) ∧ PySem.W.typeIn K (.ref fI) = some (.type "function") ∧ Binds K fd ps [] ∧ FnOk P w K mg base (L2N.CX P w) 1 fI fd ps (spInit C "most")
  tri : ∀ x, tb x = some .tried → TriK P w K mg base x
/-- the level of a fuel -/
def lv (k : Nat) : Nat := 3 * k + 4
section
variable {P : Program} {w : World} {K : PySem.W.Frag} {mg : Str → Option Value} {T : List (Addr × Str)} {tb : Str → Option GI} {bf bv dv : Str → Bool} {df : Nat → Option Fe}
theorem ρ0_len {sz : Nat} {ds : List D} (h : ds.length ≤ sz) : (ρ0 sz ds).length = sz := by simp [ρ0]; omega
theorem ρ0_val {sz : Nat} {ds : List D} {i : Nat} {d : D} (h : (ρ0 sz ds)[i]? = some (some (.val d))) : ds[i]? = some d := by
  unfold ρ0 at h
  by_cases hi : i < ds.length
  · rw [List.getElem?_append_left (by simpa using hi), List.getElem?_map] at h
    cases e : ds[i]? with
    | none => rw [e] at h; cases h
    | some x => rw [e] at h; cases h; rfl
  · rw [List.getElem?_append_right (by simpa using hi)] at h
    rw [List.getElem?_replicate] at h
    split at h <;> cases h
theorem ρ0_own {sz : Nat} {ds : List D} {i : Nat} {c : Cont} : (ρ0 sz ds)[i]? ≠ some (some (.own c)) := fun h => by
  unfold ρ0 at h
  by_cases hi : i < ds.length
  · rw [List.getElem?_append_left (by simpa using hi), List.getElem?_map] at h
    cases e : ds[i]? with
    | none => rw [e] at h; cases h
    | some x => rw [e] at h; cases h
  · rw [List.getElem?_append_right (by simpa using hi)] at h
    rw [List.getElem?_replicate] at h
    split at h <;> cases h
theorem start_val {N : List Str} {vs : List V} {i : Nat} {v : V} (h : vs[i]? = some v) : (L2.start N vs)[i]? = some (some v) := by
  have hi : i < vs.length := (List.getElem?_eq_some_iff.mp h).1
  unfold L2.start
  rw [List.getElem?_append_left (by simpa using hi), List.getElem?_map, h]
  rfl
abbrev spF (mg : Str → Option Value) (T : List (Addr × Str)) (n : Nat) (f : List D → Store → FOut) : Sp := fun vs H Q E => vs.length = n ∧ SpF mg T f vs H Q E
/-- a def whose body's meaning is m keeps the promise of its meaning -/
theorem def_ok {base : Heap} {x : Str} {d : Df} {fa : Addr} {fd : FuncData} {qual : Str} {params : Arguments} {j k : Nat} {Φ : PhiT} (hj : 2 ≤ j) (hjk : j + 2 ≤ k) (Y : Wd P w K mg base T tb bf bv dv df) (F : FunD K x qual params d.body d.sc [] [] fa fd) (S : FnScope d.N d.ps d.sc) (hlam : d.lam = true → LamAt mg base T qual fd)
    (hf : ∀ y f n, tb y = some (.fn f n) → ∃ (fa : Addr) (fd : FuncData) (ps : List Str), mg y = some (.ref fa) ∧ PySem.W.keepIn K (.ref fa) = true ∧ Binds K fd ps [] ∧ ps.length = n ∧ FnOk P w K mg base (L2N.CX P w) j fa fd ps (spF mg T n (Φ f))) :
    FnOk P w K mg base (L2N.CX P w) (k + 1) fa fd d.ps (spF mg T d.ps.length (runF d.N.length (d.m tb bf bv dv) Φ)) := by
  obtain ⟨oc, od, dV, kV, doc, pm, an, cdv, ct, osl, rfl, lk, hcd, _, _⟩ := F.ex
  refine fn_of lk hcd S (fun vs H Q E h => h.1) fun A outer s H vs Q E hr hsp => ?_
  obtain ⟨hl, w0, ds, hρ, g, R, hm⟩ := hsp
  have hps : d.ps.length ≤ d.N.length := by
    have := congrArg List.length S.pre
    rw [List.length_take] at this
    omega
  have hds : ds.length ≤ d.N.length := by rw [← R.length, hl]; exact hps
  let fr : Fr := ⟨mg, T, H, w0.F, w0.B⟩
  let W : WX := fun cls d _ H' => E cls d H'
  let X := cxOf (L2N.CX P w) P w K mg base d.N qual d.sc fa cdv A outer s H E
  have hc : CtxS (d.dx tb bf bv dv).C X fr W Φ := by
    refine ⟨⟨rfl, S.nd, rfl, fun y hy => ?_, rfl, rfl, ?_, L2N.takes_of rfl rfl rfl rfl, Y.gint, Y.free, ⟨j, hj, hr.mono (by omega), fun _ => hr.mono hjk, fun y f n hy => ?_⟩, fun y hy => ?_, fun y hy => ?_, fun hl => ⟨?_, Y.tri⟩⟩, passes_of rfl⟩
    · have hy' : (match d.sc.names.lookup y with
        | some .local => true
        | some .cell => true
        | _ => false) = true := hy
      refine ⟨?_, .inl rfl⟩
      split at hy'
      · exact .inl (by assumption)
      · exact .inr (by assumption)
      · cases hy'
    · have := hr.un
      show (A.deeper (envOfC qual d.sc s.heap.objs.size fa cdv)).units + 70 < cLine
      omega
    · obtain ⟨fa, fd, ps, h1, h2, h3, h4, h5⟩ := hf y f n hy
      exact ⟨fa, fd, ps, h1, h2, h3, h4, h5⟩
    · obtain ⟨C, h1, h2, h3, h4, h5⟩ := Y.exc y hy
      exact ⟨C, h1, h2, h3, raises_own h4 h5⟩
    · obtain ⟨C, fI, fd, ps, h⟩ := Y.exc1 y hy
      exact ⟨C, fI, fd, ps, h⟩
    · obtain ⟨c, P', h1, h2, h3, h4⟩ := hlam hl
      exact ⟨c, P', h1, h2, h3, h4⟩
  have hp : PSs X d.body (LS fr W Φ (d.m tb bf bv dv)) := dBl_ok (fun st => denS_ok (den_ok 40) 20 st fr hc) d.body
  refine ⟨_, hp, { w0 with ρ := ρ0 d.N.length ds }, ?_, ?_⟩
  · refine ⟨⟨g.sub, g.fn, g.tab, g.nd, g.fb, g.bag⟩, ⟨fun a o h _ _ _ => h, fun _ _ h => h, ⟨[], by show w0.B = w0.B ++ []; simp, by simp⟩, fun _ _ h => .inl h, fun _ o h => ⟨o, h⟩⟩, ⟨fun i e h => ?_, fun i c h => absurd h ρ0_own, fun i j a ⟨c, h, _⟩ => absurd h ρ0_own, ?_⟩⟩
    · obtain ⟨v, h1, h2⟩ := R.get (ρ0_val h)
      exact ⟨v, start_val h1, h2⟩
    · show (ρ0 d.N.length ds).length = (L2.start d.N vs).length
      rw [ρ0_len hds]
      unfold L2.start
      simp [hl]
      omega
  · have hm' : match runF d.N.length (d.m tb bf bv dv) Φ ds w0.S with
      | .ok r S' => ∀ v H' w', w'.ρ = [] → w'.S = S' → Good T H' w' → Stp H w0.F w0.B (fun _ => False) H' w' → RelF H H' w' v r → Q v H'
      | .ex x S' => ∀ c d H' w', w'.ρ = [] → w'.S = S' → Good T H' w' → Stp H w0.F w0.B (fun _ => False) H' w' → XOk mg x c d H' → E c d H'
      | .no => False := hm
    unfold runF at hm'
    have back : ∀ {σ' : L2.St} {H' : Hp} {w' : Wl}, At fr σ' H' w' → Good T H' { w' with ρ := [] } ∧ Stp H w0.F w0.B (fun _ => False) H' { w' with ρ := [] } := fun A' =>
      ⟨⟨A'.good.sub, A'.good.fn, A'.good.tab, A'.good.nd, A'.good.fb, A'.good.bag⟩, ⟨A'.stp.keep, A'.stp.sub, A'.stp.bags, A'.stp.fz, A'.stp.there⟩⟩
    show ResS fr W _ ((d.m tb bf bv dv) Φ ⟨ρ0 d.N.length ds, w0.S⟩)
    generalize (d.m tb bf bv dv) Φ ⟨ρ0 d.N.length ds, w0.S⟩ = o at hm' ⊢
    cases o with
    | no => exact hm'
    | ex x s1 =>
      intro c dd σ' H' w' e1 e2 A' xo
      obtain ⟨b1, b2⟩ := back A'
      exact hm' c dd H' { w' with ρ := [] } rfl e2 b1 b2 xo
    | ok fl s1 =>
      cases fl with
      | nx =>
        intro σ' H' w' e1 e2 A'
        obtain ⟨b1, b2⟩ := back A'
        exact hm' .non H' { w' with ρ := [] } rfl e2 b1 b2 .non
      | brk => exact hm'.elim
      | ct => exact hm'.elim
      | ret r =>
        cases r with
        | val q =>
          intro v σ' H' w' e1 e2 A' rel
          obtain ⟨b1, b2⟩ := back A'
          exact hm' v H' { w' with ρ := [] } rfl e2 b1 b2 rel
        | own q =>
          intro v σ' H' w' e1 e2 A' rel
          obtain ⟨b1, b2⟩ := back A'
          exact hm' v H' { w' with ρ := [] } rfl e2 b1 b2 rel
        | bor q => exact hm'.elim
theorem spF_no {n : Nat} {vs : List V} {H : Hp} {Q : VK} {E : XK} (h : spF mg T n (fun _ _ => .no) vs H Q E) : False := by
  obtain ⟨_, w, ds, _, _, _, h⟩ := h
  exact h
theorem all_ok {base : Heap} (Y : Wd P w K mg base T tb bf bv dv df) : ∀ (k : Nat) (y : Str) (f n : Nat), tb y = some (.fn f n) → ∃ (fa : Addr) (fd : FuncData) (ps : List Str), mg y = some (.ref fa) ∧ PySem.W.keepIn K (.ref fa) = true ∧ Binds K fd ps [] ∧ ps.length = n ∧ FnOk P w K mg base (L2N.CX P w) (lv k) fa fd ps (spF mg T n (Phi df k f))
  | 0, y, f, n, h => by
    obtain ⟨d, ⟨fa, fd, qual, params, h1, h2, h3, h4, h7⟩, h5, h6⟩ := Y.fns y f n h
    exact ⟨fa, fd, d.ps, h1, h2.kp, h3, h5, ⟨fun vs H Q E q => q.1.trans h5.symm, fun A outer s H args us vs Q E _ _ _ _ q => (spF_no q).elim⟩⟩
  | k + 1, y, f, n, h => by
    obtain ⟨d, ⟨fa, fd, qual, params, h1, h2, h3, h4, h7⟩, h5, h6⟩ := Y.fns y f n h
    have q := def_ok (P := P) (w := w) (base := base) (j := lv k) (k := 3 * k + 6) (Φ := Phi df k) (by unfold lv; omega) (by unfold lv; omega) Y h2 h4 h7 (all_ok Y k)
    refine ⟨fa, fd, d.ps, h1, h2.kp, h3, h5, q.imp fun vs H Q E z => ?_⟩
    obtain ⟨z1, w0, ds, e1, e2, e3, e4⟩ := z
    refine ⟨z1.trans h5.symm, w0, ds, e1, e2, e3, ?_⟩
    have e5 : match (match df f with
        | some e => if ds.length = e.ar then runF e.sz e.m (Phi df k) ds w0.S else .no
        | none => .no) with
      | .ok r S' => ∀ v H' w', w'.ρ = [] → w'.S = S' → Good T H' w' → Stp H w0.F w0.B (fun _ => False) H' w' → RelF H H' w' v r → Q v H'
      | .ex x S' => ∀ c d H' w', w'.ρ = [] → w'.S = S' → Good T H' w' → Stp H w0.F w0.B (fun _ => False) H' w' → XOk mg x c d H' → E c d H'
      | .no => False := e4
    rw [h6] at e5
    have hl : ds.length = n := by rw [← e3.length]; exact z1
    have e6 : match (if ds.length = n then runF d.N.length (d.m tb bf bv dv) (Phi df k) ds w0.S else .no) with
      | .ok r S' => ∀ v H' w', w'.ρ = [] → w'.S = S' → Good T H' w' → Stp H w0.F w0.B (fun _ => False) H' w' → RelF H H' w' v r → Q v H'
      | .ex x S' => ∀ c d H' w', w'.ρ = [] → w'.S = S' → Good T H' w' → Stp H w0.F w0.B (fun _ => False) H' w' → XOk mg x c d H' → E c d H'
      | .no => False := e5
    rw [if_pos hl] at e6
    exact e6
/-- what is no table -/
def noTab (H : Hp) : Hp := fun a => match H a with
  | some (.tbl _) => none
  | o => o
theorem noTab_at {H : Hp} {a : Addr} {o : HO} (h : noTab H a = some o) : H a = some o ∧ nt o := by
  unfold noTab at h
  split at h
  · cases h
  · rename_i hn
    refine ⟨h, fun ps e => ?_⟩
    subst e
    exact hn _ h
theorem law_sp {k f : Nat} {a : Addr} {ns : List Int} {H : Hp} (hK : ∀ o, K.lookup a = some o → o.cls ≠ .type "list") (hT : ∀ p ∈ T, H p.1 = some (.tbl #[])) (hS : SqL K H a (ns.map V.int)) (hv : ∃ S, Phi df k f [.scr ns] [] = .ok (.val (.bl true)) S) :
    spF mg T 1 (Phi df k f) [.ref a] H (fun v _ => v = .bl true) fun _ _ _ => False := by
  have ho : ∃ o, noTab H a = some o ∧ (o = .lst (ns.map V.int) ∨ ∃ ob, o = .frz ob (.lst (ns.map V.int))) := by
    rcases hS with (z | z) | ⟨o, _, _, z, z2, _⟩
    · exact ⟨_, by unfold noTab; rw [z], .inl rfl⟩
    · obtain ⟨o, z⟩ := z
      exact ⟨_, by unfold noTab; rw [z], .inr ⟨o, rfl⟩⟩
    · exact absurd z2 (hK o z)
  obtain ⟨o, ho, ho2⟩ := ho
  obtain ⟨S, hv⟩ := hv
  refine ⟨rfl, ⟨noTab H, [], [], []⟩, [.scr ns], rfl, ⟨fun _ _ h => (noTab_at h).1, fun _ _ h => (noTab_at h).2, fun p hp => .nil (hT p hp), List.nodup_nil, fun a ha => absurd ha (by simp), .nil⟩, .cons (.scr ho ho2) .nil, ?_⟩
  show match Phi df k f [.scr ns] [] with
    | .ok r S' => _
    | .ex x S' => _
    | .no => _
  rw [hv]
  intro v H' w' _ _ _ _ rel
  cases rel
  rfl
end
end DL
end

section
set_option Elab.async false
set_option linter.all false
set_option maxRecDepth 100000
set_option autoImplicit false
set_option maxHeartbeats 1000000
/-! DLK: what the head is asked of classes and of code objects. -/
namespace DL
open PySem PySem.Spec PyProof.Rows L2
section
variable {K : PySem.W.Frag} {C : Addr}
def oexK (K : PySem.W.Frag) (C : Addr) : Bool := match K.lookup C with
  | some ⟨.type "type", _, .cls cd, sl⟩ => (match cd.mro, sl.toList with
    | .ref C' :: bm, [_, _, _, _, some (.builtin n), _] => C' == C && (n == "ValueError.__new__" && (!cd.hasDel && (cd.hasDict && PySem.HandSPX.refsVE bm)))
    | _, _ => false)
  | _ => false
theorem oexK_ok (h : oexK K C = true) : ∃ nm q N bs bm sn sub ab col dd k0 k1 k2 k3 k5, K.lookup C = some (excClassObj nm q C N bs bm true sn sub ab col dd k0 k1 k2 k3 k5 "ValueError.__new__") ∧ PySem.HandSPX.refsVE bm = true := by
  unfold oexK at h
  split at h
  · rename_i dd cd sl ho
    split at h
    · rename_i C' bm k0 k1 k2 k3 n k5 hm hs
      simp only [Bool.and_eq_true, beq_iff_eq, Bool.not_eq_true'] at h
      obtain ⟨rfl, rfl, hdel, hdic, hr⟩ := h
      obtain ⟨nm, bs, mro, ns, qn, hd, sn, sub, ab, col, del⟩ := cd
      dsimp only at hm hdel hdic
      subst hm hdel hdic
      have hsl : sl = #[k0, k1, k2, k3, some (.builtin "ValueError.__new__"), k5] := by
        obtain ⟨l⟩ := sl
        simp only at hs
        rw [hs]
      subst hsl
      exact ⟨nm, qn, ns, bs, bm, sn, sub, ab, col, dd, k0, k1, k2, k3, k5, ho, hr⟩
    · cases h
  · cases h
def oexB (K : PySem.W.Frag) (C : Addr) : Bool := oexK K C && (He.eqO (PySem.W.findIn K (.ref C) "__setattr__") (some (some (.builtin "object.__setattr__"))) && (decide (PySem.W.subIn K (.ref C) (.type "BaseException") = some true) && (decide (PySem.W.typeIn K (.ref C) = some (.type "type")) && PySem.W.keepIn K (.ref C))))
theorem oexB_ok (h : oexB K C = true) : OexC K C := by
  obtain ⟨h1, h⟩ := He.ba h
  obtain ⟨h2, h⟩ := He.ba h
  obtain ⟨h3, h⟩ := He.ba h
  obtain ⟨h4, h5⟩ := He.ba h
  exact ⟨oexK_ok h1, He.eqO_ok h2, of_decide_eq_true h3, of_decide_eq_true h4, h5⟩
def excB (K : PySem.W.Frag) (D : Addr) : Bool := He.eqO (PySem.W.findIn K (.ref D) "__getattribute__") (some (some (.builtin "BaseException.__getattribute__"))) && (He.eqO (PySem.W.findIn K (.ref D) "__getattr__") (some none) && (decide (PySem.W.subIn K (.ref D) (.type "BaseException") = some true) &&
  (PySem.W.hasDictIn K D && (He.eqO (PySem.W.findIn K (.ref D) "__class__") (some (some (.builtin "object.__class__"))) && (He.eqO (PySem.W.specialIn K (.builtin "object.__class__") "__get__") (some (some (.builtin "getset_descriptor.__get__"))) &&
  (decide (PySem.W.takesIn K (.builtin "object.__class__") = some true) && decide (PySem.W.mroIn K D (.type "object") = some true)))))))
theorem excB_ok {D : Addr} (h : excB K D = true) : ExcC K D := by
  obtain ⟨h1, h⟩ := He.ba h
  obtain ⟨h2, h⟩ := He.ba h
  obtain ⟨h3, h⟩ := He.ba h
  obtain ⟨h4, h⟩ := He.ba h
  obtain ⟨h5, h⟩ := He.ba h
  obtain ⟨h6, h⟩ := He.ba h
  obtain ⟨h7, h8⟩ := He.ba h
  exact ⟨He.eqO_ok h1, He.eqO_ok h2, of_decide_eq_true h3, h4, He.eqO_ok h5, He.eqO_ok h6, of_decide_eq_true h7, of_decide_eq_true h8⟩
def cinB (K : PySem.W.Frag) (C : Addr) : Bool := PySem.W.readsIn K C (.type "type") && (He.eqO (PySem.W.specialIn K (.ref C) "__getattribute__") (some (some (.builtin "type.__getattribute__"))) && (match PySem.W.findCls K (.ref C) (.type "type") "__init__" with
  | some (.val (.builtin b)) => b == "ValueError.__init__"
  | _ => false))
theorem cinB_ok (h : cinB K C = true) : ClX.CRead K C (.type "type") ∧ PySem.W.findCls K (.ref C) (.type "type") "__init__" = some (.val (.builtin "ValueError.__init__")) := by
  obtain ⟨h1, h⟩ := He.ba h
  obtain ⟨h2, h⟩ := He.ba h
  refine ⟨⟨h1, He.eqO_ok h2⟩, ?_⟩
  split at h
  · rename_i b e
    rw [e, eq_of_beq h]
  · cases h
end
/-- what the head is asked of the exceptions -/
def exX (K : PySem.W.Frag) : Bool := (exNames.all fun x => excB K (He.ga K x)) && ((exNames.all fun x => exNames.all fun y => decide (PySem.W.kitOne K (.ref (He.ga K x)) (.ref (He.ga K y)) = some (x == y))) &&
  (oexB K (He.ga K "TooMany") && (xfB K (He.ga K "TooMany") && (He.eqO (PySem.W.findIn K (.ref (He.ga K "TooMany")) "__init__") (some (some (.ref (He.fAd K ("TooMany", some "__init__"))))) &&
  (decide (PySem.W.typeIn K (.ref (He.fAd K ("TooMany", some "__init__"))) = some (.type "function")) && (He.eqO (PySem.W.findIn K (.ref (He.ga K "TooMany")) "most") (some none) && cinB K (He.ga K "SteerError")))))))
/-! ### code objects and their tables -/
def codOf (K : PySem.W.Frag) (x : Str) : Addr := match K.lookup (He.fAd K (x, none)) with
  | some ⟨_, _, .func fd, _⟩ => (match fd.code with
    | .ref c => c
    | _ => 0)
  | _ => 0
def tabOf (K : PySem.W.Frag) (x : Str) : Addr := match K.lookup (codOf K x) with
  | some ⟨_, _, .fields vs, _⟩ => (match vs[11]? with
    | some (Value.ref P) => P
    | _ => 0)
  | _ => 0
def isTabO : Option Obj → Bool
  | some ⟨.none, none, .fields vs, sl⟩ => vs.isEmpty && sl.isEmpty
  | _ => false
theorem isTabO_ok {o : Option Obj} (h : isTabO o = true) : o = some { cls := .none, data := .fields #[] } := by
  unfold isTabO at h
  split at h
  · rename_i vs sl
    obtain ⟨h1, h2⟩ := He.ba h
    have e1 : vs = #[] := by simpa using h1
    have e2 : sl = #[] := by simpa using h2
    rw [e1, e2]
  · cases h
def codB (K : PySem.W.Frag) (c P : Addr) : Bool := match K.lookup c with
  | some ⟨.type t, _, .fields vs, _⟩ => t == "code" && ((match vs[11]?, vs.getD 11 .none, vs.getD 18 .none, vs.getD 7 .none, vs.getD 9 .none, vs.getD 10 .none with
    | some (Value.ref p), Value.ref q, Value.str _ _, Value.int _ _, Value.bool _, Value.int _ _ => p == P && q == P
    | _, _, _, _, _, _ => false) && !(c == P))
  | _ => false
theorem codB_ok {K : PySem.W.Frag} {h : Heap} {c P : Addr} (KX : K.In h) (hb : codB K c P = true) : PySem.W.CodeHd h c P := by
  unfold codB at hb
  split at hb
  · rename_i t dd vs sl ho
    obtain ⟨h1, hb⟩ := He.ba hb
    obtain ⟨h2, h3⟩ := He.ba hb
    have et : t = "code" := eq_of_beq h1
    subst et
    split at h2
    · rename_i p q file tf flags tg inF text tt e11 d11 e18 e7 e9 e10
      obtain ⟨a1, a2⟩ := He.ba h2
      have b1 : p = P := eq_of_beq a1
      have b2 : q = P := eq_of_beq a2
      subst b1 b2
      exact ⟨_, vs, file, tf, flags, tg, inF, text, tt, KX _ _ ho, rfl, rfl, e11, d11, e18, e7, e9, e10, by simpa using h3⟩
    · cases h2
  · cases hb
/-- the def x is a maker of lambdas: its code object, its table, still empty -/
def lamB (K : PySem.W.Frag) (g : Addr → Option Obj) (x : Str) : Bool := (match K.lookup (He.fAd K (x, none)) with
  | some ⟨_, _, .func fd, _⟩ => (match fd.code with
    | .ref c => c == codOf K x
    | _ => false)
  | _ => false) && (codB K (codOf K x) (tabOf K x) && (isTabO (g (tabOf K x)) && (K.lookup (tabOf K x)).isNone))
structure LamH (K : PySem.W.Frag) (h : Heap) (x : Str) : Prop where
  code : ∀ (oc : Value) (od : Option Addr) (fd : FuncData) (osl : Array (Option Value)), K.lookup (He.fAd K (x, none)) = some ⟨oc, od, .func fd, osl⟩ → fd.code = .ref (codOf K x)
  hd : codB K (codOf K x) (tabOf K x) = true
  tab : h.get? (tabOf K x) = some { cls := .none, data := .fields #[] }
  out : K.lookup (tabOf K x) = none
theorem lamB_ok {K : PySem.W.Frag} {h : Heap} {x : Str} (hb : lamB K h.get? x = true) : LamH K h x := by
  obtain ⟨h1, hb⟩ := He.ba hb
  obtain ⟨h2, hb⟩ := He.ba hb
  obtain ⟨h3, h4⟩ := He.ba hb
  refine ⟨fun oc od fd osl e => ?_, h2, isTabO_ok h3, by simpa using h4⟩
  rw [e] at h1
  have h1' : (match fd.code with
    | .ref c => c == codOf K x
    | _ => false) = true := h1
  split at h1'
  · rename_i c ec
    rw [ec, eq_of_beq h1']
  · cases h1'
def lamsB (K : PySem.W.Frag) (g : Addr → Option Obj) (lams : List Str) : Bool := lams.all (fun x => lamB K g x) && decide ((lams.map (tabOf K)).Nodup)
end DL
end

section
set_option Elab.async false
set_option linter.all false
set_option maxRecDepth 100000
set_option autoImplicit false
set_option maxHeartbeats 1000000
/-! DL21: the head's Hook; the table of the text. -/
namespace DL
open PySem PySem.Spec PyProof.Rows L2

def frL (g : Addr → Option Obj) (as : List Addr) : PySem.W.Frag := as.filterMap fun a => match g a with
  | some o => if o.cls = .type "list" then none else some (a, o)
  | none => none
theorem frL_at {g : Addr → Option Obj} {a : Addr} {o : Obj} : ∀ {as : List Addr}, (frL g as).lookup a = some o → g a = some o ∧ o.cls ≠ .type "list"
  | [], e => by cases e
  | b :: r, e => by
    have skip : ∀ {x : Option (Addr × Obj)}, x = none → (match x with
        | some p => p :: frL g r
        | none => frL g r).lookup a = some o → g a = some o ∧ o.cls ≠ .type "list" := fun {x} hx q => by
      subst hx; exact frL_at q
    unfold frL at e
    rw [List.filterMap_cons] at e
    cases hb : g b with
    | none => rw [hb] at e; exact frL_at e
    | some ob =>
      rw [hb] at e
      by_cases hl : ob.cls = .type "list"
      · simp only [hl, if_true] at e
        exact frL_at e
      · simp only [hl, if_false] at e
        rw [List.lookup_cons] at e
        cases q : (a == b) with
        | true =>
          rw [q] at e
          have e2 : ob = o := Option.some.inj e
          have e3 : a = b := by simpa using q
          subst e2 e3
          exact ⟨hb, hl⟩
        | false =>
          rw [q] at e
          exact frL_at e
theorem frL_in {as : List Addr} {h : Heap} : (frL h.get? as).In h := fun _ _ e => (frL_at e).1
def codeR (g : Addr → Option Obj) (a : Addr) : List Addr := match g a with
  | some ⟨_, _, .func fd, _⟩ => He.refV fd.code
  | _ => []
def dictR (g : Addr → Option Obj) (a : Addr) : List Addr := match g a with
  | some ⟨_, _, .dict es _, _⟩ => es.toList.flatMap fun e => He.refV e.val
  | _ => []
def clsR (g : Addr → Option Obj) (a : Addr) : List Addr := match g a with
  | some ⟨_, _, .cls cd, _⟩ => cd.ns :: (cd.mro.flatMap He.refV ++ dictR g cd.ns)
  | _ => []
def asN (g : Addr → Option Obj) : List Addr :=
  mainGlobals :: PySem.cStatics :: (dictR g mainGlobals ++ (dictR g mainGlobals).flatMap fun a => codeR g a ++ clsR g a ++ (clsR g a).flatMap (codeR g))
def obsL (lams : List Str) (fa : List He.Fa) (fn : List He.DefD) (g : Addr → Option Obj) : He.AlD × Bool := (He.obsD fa fn (frL g (asN g)), exX (frL g (asN g)) && lamsB (frL g (asN g)) g lams)
def hookL (lams : List Str) (fa : List He.Fa) (fn : List He.DefD) : PySem.W.Hook where
  α := He.AlD × Bool
  obs := fun s => obsL lams fa fn s.heap.get?
  val := fun _ => (He.valD fn, true)
  says := fun _ h => ∃ K : PySem.W.Frag, K.In h ∧ (∀ a o, K.lookup a = some o → o.cls ≠ .type "list") ∧ He.SaysD fa fn K ∧ exX K = true ∧ (∀ x ∈ lams, LamH K h x) ∧ (lams.map (tabOf K)).Nodup
  of := fun _ s e => by
    have e1 : He.obsD fa fn (frL s.heap.get? (asN s.heap.get?)) = He.valD fn := congrArg (fun z : He.AlD × Bool => z.1) e
    have e2 : (exX (frL s.heap.get? (asN s.heap.get?)) && lamsB (frL s.heap.get? (asN s.heap.get?)) s.heap.get? lams) = true := congrArg (fun z : He.AlD × Bool => z.2) e
    obtain ⟨e3, e4⟩ := He.ba e2
    obtain ⟨e5, e6⟩ := He.ba e4
    exact ⟨_, frL_in, fun _ _ q => (frL_at q).2, e1, e3, fun x hx => lamB_ok (List.all_eq_true.mp e5 x hx), of_decide_eq_true e6⟩
  keeps := fun _ _ _ ⟨K, hK, hl, c, x, l, n⟩ k => ⟨K, PySem.W.Frag.In.keeps hK k, hl, c, x, fun y hy => ⟨(l y hy).code, (l y hy).hd, k _ _ (l y hy).tab, (l y hy).out⟩, n⟩
theorem obsL_eq {lams : List Str} {fa : List He.Fa} {fn : List He.DefD} {g : Addr → Option Obj} {s : Shared} (h : ∀ a, g a = s.heap.get? a) : obsL lams fa fn g = (hookL lams fa fn).obs s := by
  have e : g = s.heap.get? := funext h
  rw [e]; rfl

/-- a def that lets nothing out -/
theorem fn_quiet {P : Program} {w : World} {K : PySem.W.Frag} {mg : Str → Option Value} {base : Heap} {k : Nat} {f : Addr} {fd : FuncData} {ps : List Str} {sp : Sp} (F : FnOk P w K mg base (L2N.CX P w) k f fd ps sp) :
    FnOk P w K mg base (fun _ _ _ _ _ _ => False) k f fd ps (fun vs H Q _ => sp vs H Q fun _ _ _ => False) := by
  refine ⟨fun vs H Q E h => F.len vs H Q _ h, fun A outer s H args us vs Q E hr e0 hb hv hs => ?_⟩
  refine codeAny_mono (F.run A outer s H args us vs Q (fun _ _ _ => False) hr e0 hb hv hs) fun r s' hq => ?_
  cases r with
  | ok fl => cases fl <;> exact hq
  | error e => obtain ⟨_, _, _, _, _, _, _, _, _, _, _, _, z⟩ := hq; exact z.elim

/-! ### the table -/
structure Fd where
  name : Str
  params : Arguments
  d : Df
def ixF : List Fd → Str → Nat → Option GI
  | [], _, _ => none
  | e :: r, x, i => if (e.name == x) = true then some (.fn i e.d.ps.length) else ixF r x (i + 1)
def tbOf (fns : List Fd) (cs : List (Str × Int)) (x : Str) : Option GI := if x = ("_law_tried" : Str) then some .tried else if x = ("TooMany" : Str) then some .exc1 else if exNames.contains x = true then some .exc else
  match ixF fns x 0 with
  | some g => some g
  | none => (cs.lookup x).map GI.int
def dfOf (fns : List Fd) (cs : List (Str × Int)) (bf bv dv : Str → Bool) (f : Nat) : Option Fe := (fns[f]?).map fun e => ⟨e.d.ps.length, e.d.N.length, e.d.m (tbOf fns cs) bf bv dv⟩
def Fd.dd (e : Fd) : He.DefD := ⟨(e.name, none), e.name, e.name, e.params, e.d.body, e.d.sc, [], []⟩
def exc8 : List Str := ["NoRule", "NoSenses", "NoState", "NoBounds", "NoPlace", "NoRows", "NoFirst", "Unlike"]
def faX : List He.Fa := (exNames.map .glo ++ [.glo "SteerError"]) ++ (exc8.map .exc ++ (exNames.map (fun x => .exm x "TooMany" (x == ("TooMany" : Str))) ++ exNames.map (fun x => .exm x "SteerError" true)))
def faOf (fns : List Fd) (cs : List (Str × Int)) : List He.Fa := fns.map (fun e => .glo e.name) ++ (cs.map (fun p => .int p.1 p.2) ++ (bNames.map .free ++ faX))
def BindOk (params : Arguments) (ps : List Str) : Prop := ∀ (x qual : Str) (body : List Stmt) (scope : Scope) (kV doc pm : Value) (an : Option Addr) (cdv ct : Value) (us : List Value), us.length = ps.length → bindArgs (PySem.W.fnOf x qual params body scope .none kV doc pm an cdv ct) ⟨us, []⟩ = Pure.pure (ps.zip us)
def AllB : List Fd → Prop
  | [] => True
  | e :: r => BindOk e.params e.d.ps ∧ AllB r
theorem AllB.mem : ∀ {l : List Fd} {e : Fd}, AllB l → e ∈ l → BindOk e.params e.d.ps
  | _ :: r, e, ⟨h1, h2⟩, h => by
    rcases List.mem_cons.mp h with rfl | h
    · exact h1
    · exact AllB.mem h2 h
theorem ixF_at : ∀ {l : List Fd} {x : Str} {i f n : Nat}, ixF l x i = some (.fn f n) → ∃ e, l[f - i]? = some e ∧ i ≤ f ∧ e.name = x ∧ e.d.ps.length = n
  | [], _, _, _, _, h => by cases h
  | e :: r, x, i, f, n, h => by
    unfold ixF at h
    split at h
    · rename_i hx
      cases h
      exact ⟨e, by simp, Nat.le_refl _, by simpa using hx, rfl⟩
    · obtain ⟨e', h1, h2, h3, h4⟩ := ixF_at h
      refine ⟨e', ?_, by omega, h3, h4⟩
      have : f - i = (f - (i + 1)) + 1 := by omega
      rw [this]; simpa using h1
theorem ixF_fn : ∀ {l : List Fd} {x : Str} {i : Nat} {g : GI}, ixF l x i = some g → ∃ f n, g = .fn f n
  | [], _, _, _, h => by cases h
  | e :: r, x, i, g, h => by
    unfold ixF at h
    split at h
    · cases h; exact ⟨_, _, rfl⟩
    · exact ixF_fn h
/-- a text: its defs, its numbers; the __init__ of TooMany; where the law's own telling and trying stand -/
structure Tx where
  fns : List Fd
  cs : List (Str × Int)
  ini : He.DefD
  ki : Nat
  ti : Nat
  kp : Nat → Pos
  tp : Nat → Pos
  ip : Nat → Pos
def Tx.lams (t : Tx) : List Str := (t.fns.filter fun e => e.d.lam).map (·.name)
def Tx.fn (t : Tx) : List He.DefD := t.fns.map Fd.dd ++ [t.ini]
abbrev Tx.fa (t : Tx) : List He.Fa := faOf t.fns t.cs
def iniBody (p : Nat → Pos) (z me b : Str) (j : Nat) : List Stmt := [.Expr (.Call (.Attribute (.Name "SteerError" (p 0)) "__init__" (p 1)) [.Name me (p 2), .Constant (.str z) j (p 3)] [] (p 4)) (p 5), .Assign [.Attribute (.Name me (p 6)) "most" (p 7)] (.Name b (p 8)) (p 9)]
def iniSc : Scope := { kind := .function, names := [("self", .local), ("most", .local), ("SteerError", .globalImplicit)], isGenerator := false, isCoroutine := false, more := [] }
end DL
end

section
set_option Elab.async false
set_option linter.all false
set_option maxRecDepth 100000
set_option autoImplicit false
set_option maxHeartbeats 1000000
/-! DL22: the law's end over the table. -/
namespace DL
open PySem PySem.Spec PyProof.Rows L2
def IniC (p : Nat → Pos) : Prop := ∀ env : Env, ∃ pl : Sem Bool, eval (.Call (.Attribute (.Name "SteerError" (p 0)) "__init__" (p 1)) [.Name "self" (p 2), .Constant (.str "more than there may be") 0 (p 3)] [] (p 4)) env = (do
      let ov ← eval (.Name "SteerError" (p 0)) env
      standAt (p 1).atName
      let (f, first) ← holding [ov] (getMethod ov "__init__" pl)
      callWith (p 4) f first (backTo (p 4) (starEach [.Name "self" (p 2), .Constant (.str "more than there may be") 0 (p 3)] env)) (backToKw (p 4) (keywordEach [] env)))
/-- what is to be seen of the text itself -/
structure TxOk (t : Tx) : Prop where
  hb : AllB t.fns
  hs : (t.fns.all fun e => C8.scC e.d.N e.d.ps e.d.sc) = true
  kind : ∃ pk, t.fns[t.ki]? = some ⟨"_law_kind", pk, ⟨["_law_e"], kindN, kindSc, kindBody t.kp, false⟩⟩
  tried : ∃ pt, t.fns[t.ti]? = some ⟨"_law_tried", pt, ⟨["_law_deed"], triedN, triedSc, triedBody t.tp, false⟩⟩
  join : ((t.kp 53).endLine == (t.kp 70).line) = true
  ini : ∃ pi, t.ini = ⟨("TooMany", some "__init__"), "__init__", "TooMany.__init__", pi, iniBody t.ip "more than there may be" "self" "most" 0, iniSc, [], []⟩ ∧ BindOk pi ["self", "most"]
  inc : IniC t.ip
def csOf (K : PySem.W.Frag) (lams : List Str) : List (Addr × Addr) := lams.map fun x => (codOf K x, tabOf K x)
def TOf (K : PySem.W.Frag) (lams : List Str) : List (Addr × Str) := lams.map fun x => (tabOf K x, x ++ ".<locals>." ++ "<lambda>")
section
variable {t : Tx} {K : PySem.W.Frag} {h : Heap} {mg : Str → Option Value} {bf bv dv : Str → Bool} {P : Program} {w : World} {base : Heap}
theorem says_fact {fa : List He.Fa} {fn : List He.DefD} (c : He.SaysD fa fn K) {f : He.Fa} (hf : f ∈ fa) : f.ok K = true := by
  obtain ⟨i, hi⟩ := List.getElem?_of_mem hf
  exact c.fact i hi
theorem fd_at (c : He.SaysD t.fa t.fn K) {i : Nat} {e : Fd} (he : t.fns[i]? = some e) : ∃ fd, FunD K e.name e.name e.params e.d.body e.d.sc [] [] (He.fAd K (e.name, none)) fd := by
  refine c.def_ i (d := e.dd) ?_
  unfold Tx.fn
  rw [List.getElem?_append_left (by rw [List.length_map]; exact (List.getElem?_eq_some_iff.mp he).1), List.getElem?_map, he]
  rfl
theorem ini_at (c : He.SaysD t.fa t.fn K) : ∃ fd, FunD K t.ini.name t.ini.qual t.ini.params t.ini.body t.ini.scope (t.ini.dvs K) (t.ini.kws K) (He.fAd K t.ini.at_) fd := by
  refine c.def_ t.fns.length (d := t.ini) ?_
  unfold Tx.fn
  rw [List.getElem?_append_right (by simp)]
  simp
theorem glo_at (c : He.SaysD t.fa t.fn K) (X : K.In h) (G : h.Ns mainGlobals mg) {i : Nat} {e : Fd} (he : t.fns[i]? = some e) : mg e.name = some (.ref (He.ga K e.name)) := by
  refine He.glo_ok X G (says_fact c ?_)
  show _ ∈ faOf t.fns t.cs
  unfold faOf
  exact List.mem_append_left _ (List.mem_map.mpr ⟨e, List.mem_of_getElem? he, rfl⟩)
theorem faX_at (c : He.SaysD t.fa t.fn K) {f : He.Fa} (hf : f ∈ faX) : f.ok K = true := by
  refine says_fact c ?_
  show _ ∈ faOf t.fns t.cs
  unfold faOf
  exact List.mem_append_right _ (List.mem_append_right _ (List.mem_append_right _ hf))
theorem exX_all (x : exX K = true) : (∀ y ∈ exNames, ExcC K (He.ga K y)) ∧ (∀ y ∈ exNames, ∀ z ∈ exNames, PySem.W.kitOne K (.ref (He.ga K y)) (.ref (He.ga K z)) = some (y == z)) ∧ OexC K (He.ga K "TooMany") ∧ XfC K (He.ga K "TooMany") ∧ PySem.W.findIn K (.ref (He.ga K "TooMany")) "__init__" = some (some (.ref (He.fAd K ("TooMany", some "__init__")))) ∧
    PySem.W.typeIn K (.ref (He.fAd K ("TooMany", some "__init__"))) = some (.type "function") ∧ PySem.W.findIn K (.ref (He.ga K "TooMany")) "most" = some none ∧ ClX.CRead K (He.ga K "SteerError") (.type "type") ∧ PySem.W.findCls K (.ref (He.ga K "SteerError")) (.type "type") "__init__" = some (.val (.builtin "ValueError.__init__")) := by
  obtain ⟨h1, x⟩ := He.ba x
  obtain ⟨h2, x⟩ := He.ba x
  obtain ⟨h3, x⟩ := He.ba x
  obtain ⟨h4, x⟩ := He.ba x
  obtain ⟨h5, x⟩ := He.ba x
  obtain ⟨h6, x⟩ := He.ba x
  obtain ⟨h7, h8⟩ := He.ba x
  obtain ⟨c1, c2⟩ := cinB_ok h8
  exact ⟨fun y hy => excB_ok (List.all_eq_true.mp h1 y hy), fun y hy z hz => of_decide_eq_true (List.all_eq_true.mp (List.all_eq_true.mp h2 y hy) z hz), oexB_ok h3, xfB_ok h4, He.eqO_ok h5, of_decide_eq_true h6, He.eqO_ok h7, c1, c2⟩
theorem init_at (ok : TxOk t) (c : He.SaysD t.fa t.fn K) (x : exX K = true) (hm : mg ("SteerError" : Str) = some (.ref (He.ga K "SteerError"))) :
    ∃ fd ps, Binds K fd ps [] ∧ FnOk P w K mg base (L2N.CX P w) 1 (He.fAd K ("TooMany", some "__init__")) fd ps (spInit (He.ga K "TooMany") "most") := by
  obtain ⟨fd, F⟩ := ini_at c
  obtain ⟨pi, ei, bi⟩ := ok.ini
  rw [ei] at F
  have F' : FunD K "__init__" "TooMany.__init__" pi (iniBody t.ip "more than there may be" "self" "most" 0) iniSc [] [] (He.fAd K ("TooMany", some "__init__")) fd := F
  obtain ⟨_, _, x3, _, _, _, x7, x8, x9⟩ := exX_all x
  refine ⟨fd, ["self", "most"], F'.bindsN fun kV doc pm an cdv ct us hl => bi "__init__" "TooMany.__init__" _ iniSc kV doc pm an cdv ct us hl, ?_⟩
  exact init_fn (q11 := t.ip 0) F' (C8.fnScope_by (by rfl)) x3 x7 hm x8 x9 (by rfl) (.inl (by rfl)) (.inl (by rfl)) (by rfl) (by rfl) ok.inc
theorem tri_at (ok : TxOk t) (c : He.SaysD t.fa t.fn K) (X : K.In h) (G : h.Ns mainGlobals mg) (x : exX K = true) (hi : mg ("isinstance" : Str) = none) (hz : mg ("zip" : Str) = none) (hS : mg ("SteerError" : Str) = some (.ref (He.ga K "SteerError"))) (hC : ∀ y ∈ exNames, mg y = some (.ref (He.ga K y))) : TriK P w K mg base "_law_tried" := by
  obtain ⟨pk, ek⟩ := ok.kind
  obtain ⟨pt, et⟩ := ok.tried
  obtain ⟨fk, Fk⟩ := fd_at c ek
  obtain ⟨ft, Ft⟩ := fd_at c et
  have mk := glo_at c X G ek
  have mt := glo_at c X G et
  have Sk : FnScope kindN ["_law_e"] kindSc := C8.fnScope_by (List.all_eq_true.mp ok.hs _ (List.mem_of_getElem? ek))
  have St : FnScope triedN ["_law_deed"] triedSc := C8.fnScope_by (List.all_eq_true.mp ok.hs _ (List.mem_of_getElem? et))
  obtain ⟨x1, x2, _, x4, _, _, x7, _, _⟩ := exX_all x
  have bk : Binds K fk ["_law_e"] [] := Fk.bindsN fun kV doc pm an cdv ct us hl => ok.hb.mem (List.mem_of_getElem? ek) _ _ _ _ kV doc pm an cdv ct us hl
  have bt : Binds K ft ["_law_deed"] [] := Ft.bindsN fun kV doc pm an cdv ct us hl => ok.hb.mem (List.mem_of_getElem? et) _ _ _ _ kV doc pm an cdv ct us hl
  have e1 : ∀ y ∈ exNames, PySem.W.exmOne K (.ref (He.ga K y)) (.ref (He.ga K "TooMany")) = some (y == ("TooMany" : Str)) := fun y hy => He.exm_ok (faX_at c (by unfold faX; exact List.mem_append_right _ (List.mem_append_right _ (List.mem_append_left _ (List.mem_map.mpr ⟨y, hy, rfl⟩)))))
  have e2 : ∀ y ∈ exNames, PySem.W.exmOne K (.ref (He.ga K y)) (.ref (He.ga K "SteerError")) = some true := fun y hy => He.exm_ok (faX_at c (by unfold faX; exact List.mem_append_right _ (List.mem_append_right _ (List.mem_append_right _ (List.mem_map.mpr ⟨y, hy, rfl⟩)))))
  have kt := Ft.kp
  obtain ⟨oc, od, dV, kV, doc, pm, an, cdv, ct, osl, rfl, lk, hcd, _, _⟩ := Ft.ex
  refine ⟨He.ga K, He.ga K "_law_tried", "_law_deed", pt, triedBody t.tp, triedSc, dV, kV, doc, pm, cdv, ct, oc, an, od, osl, triedN, mt, kt, lk, hcd, bt, St, rfl, .inl (by rfl), by decide, by decide, hC, ?_⟩
  rintro Y rfl rfl rfl rfl rfl q
  exact tried_gives hC hS e1 e2 x4 x7 (kind_ok Fk Sk (fun y hy => ⟨hC y hy, x1 y hy⟩) x2 hi hz ok.join) mk Fk.kp bk St
theorem lam_at {e : Fd} {fd : FuncData} (F : FunD K e.name e.name e.params e.d.body e.d.sc [] [] (He.fAd K (e.name, none)) fd) (L : ∀ y ∈ t.lams, LamH K h y) (nd : (t.lams.map (tabOf K)).Nodup) (TB : ∀ p ∈ csOf K t.lams, LamX.TabB base mg p.1 p.2) (he : e ∈ t.fns) (hl : e.d.lam = true) : LamAt mg base (TOf K t.lams) e.name fd := by
  have hm : e.name ∈ t.lams := List.mem_map.mpr ⟨e, List.mem_filter.mpr ⟨he, hl⟩, rfl⟩
  obtain ⟨oc, od, dV, kV, doc, pm, an, cdv, ct, osl, rfl, lk, _, _, _⟩ := F.ex
  refine ⟨codOf K e.name, tabOf K e.name, (L _ hm).code _ _ _ _ lk, TB (codOf K e.name, tabOf K e.name) (List.mem_map.mpr ⟨e.name, hm, rfl⟩), List.mem_map.mpr ⟨e.name, hm, rfl⟩, fun p hp ep => ?_⟩
  obtain ⟨y, hy, rfl⟩ := List.mem_map.mp hp
  have key : ∀ {l : List Str}, (l.map (tabOf K)).Nodup → ∀ a ∈ l, ∀ b ∈ l, tabOf K a = tabOf K b → a = b := by
    intro l
    induction l with
    | nil => intro _ a ha; cases ha
    | cons z r ih =>
      intro hn a ha b hb e
      obtain ⟨n1, n2⟩ := List.nodup_cons.mp hn
      rcases List.mem_cons.mp ha with ea | ha2
      · rcases List.mem_cons.mp hb with eb | hb2
        · rw [ea, eb]
        · exact absurd (List.mem_map.mpr ⟨b, hb2, by rw [← e, ea]⟩) n1
      · rcases List.mem_cons.mp hb with eb | hb2
        · exact absurd (List.mem_map.mpr ⟨a, ha2, by rw [e, eb]⟩) n1
        · exact ih n2 a ha2 b hb2 e
  have ey : y = e.name := key nd y hy e.name hm ep
  rw [ey]
theorem wd_of (ok : TxOk t) (X : K.In h) (G : h.Ns mainGlobals mg) (c : He.SaysD t.fa t.fn K) (x : exX K = true) (L : ∀ y ∈ t.lams, LamH K h y) (nd : (t.lams.map (tabOf K)).Nodup) (TB : ∀ p ∈ csOf K t.lams, LamX.TabB base mg p.1 p.2) :
    Wd P w K mg base (TOf K t.lams) (tbOf t.fns t.cs) bf bv dv (dfOf t.fns t.cs bf bv dv) := by
  have hC : ∀ y ∈ exNames, mg y = some (.ref (He.ga K y)) := fun y hy => He.glo_ok X G (faX_at c (by unfold faX; exact List.mem_append_left _ (List.mem_append_left _ (List.mem_map.mpr ⟨y, hy, rfl⟩))))
  have hS : mg ("SteerError" : Str) = some (.ref (He.ga K "SteerError")) := He.glo_ok X G (faX_at c (by unfold faX; exact List.mem_append_left _ (List.mem_append_right _ (List.mem_singleton.mpr rfl))))
  have free : ∀ y ∈ bNames, mg y = none := fun y hy => by
    refine He.free_ok X G (says_fact c ?_)
    show _ ∈ faOf t.fns t.cs
    unfold faOf
    exact List.mem_append_right _ (List.mem_append_right _ (List.mem_append_left _ (List.mem_map.mpr ⟨y, hy, rfl⟩)))
  -- the four kinds
  have cases4 : ∀ y g, tbOf t.fns t.cs y = some g → (y = ("_law_tried" : Str) ∧ g = .tried) ∨ (y = ("TooMany" : Str) ∧ g = .exc1) ∨ (y ∈ exNames ∧ y ≠ ("TooMany" : Str) ∧ g = .exc) ∨ (match ixF t.fns y 0 with
      | some g => some g
      | none => (t.cs.lookup y).map GI.int) = some g := fun y g q => by
    unfold tbOf at q
    split at q
    · exact .inl ⟨by assumption, (Option.some.inj q).symm⟩
    · split at q
      · exact .inr (.inl ⟨by assumption, (Option.some.inj q).symm⟩)
      · split at q
        · rename_i h1 h2 h3
          exact .inr (.inr (.inl ⟨by simpa using h3, h2, (Option.some.inj q).symm⟩))
        · exact .inr (.inr (.inr q))
  refine ⟨fun y i q => ?_, free, fun y f n q => ?_, fun y q => ?_, fun y q => ?_, fun y q => ?_⟩
  · rcases cases4 _ _ q with ⟨_, z⟩ | ⟨_, z⟩ | ⟨_, _, z⟩ | q
    · cases z
    · cases z
    · cases z
    split at q
    · rename_i g hg
      obtain ⟨f, n, rfl⟩ := ixF_fn hg
      cases q
    · cases hl : t.cs.lookup y with
      | none => rw [hl] at q; cases q
      | some j =>
        rw [hl] at q
        cases q
        refine He.int_ok X G (says_fact c ?_)
        show _ ∈ faOf t.fns t.cs
        unfold faOf
        exact List.mem_append_right _ (List.mem_append_left _ (List.mem_map.mpr ⟨(y, i), PySem.mem_of_lookup hl, rfl⟩))
  · rcases cases4 _ _ q with ⟨_, z⟩ | ⟨_, z⟩ | ⟨_, _, z⟩ | q
    · cases z
    · cases z
    · cases z
    split at q
    · rename_i g hg
      cases q
      obtain ⟨e, h1, _, h3, h4⟩ := ixF_at hg
      rw [Nat.sub_zero] at h1
      subst h3
      have he : e ∈ t.fns := List.mem_of_getElem? h1
      obtain ⟨fd, F⟩ := fd_at c h1
      refine ⟨e.d, ⟨He.ga K e.name, fd, e.name, e.params, glo_at c X G h1, F, F.bindsN fun kV doc pm an cdv ct us hl => ok.hb.mem he e.name e.name e.d.body e.d.sc kV doc pm an cdv ct us hl, C8.fnScope_by (List.all_eq_true.mp ok.hs e he), fun hl => ?_⟩, h4, ?_⟩
      · exact lam_at F L nd TB he hl
      · unfold dfOf
        rw [h1, ← h4]
        rfl
    · cases hl : t.cs.lookup y with
      | none => rw [hl] at q; cases q
      | some j => rw [hl] at q; cases q
  · have hx : y ∈ exNames ∧ y ≠ ("TooMany" : Str) := by
      rcases cases4 _ _ q with ⟨_, z⟩ | ⟨_, z⟩ | ⟨a, b, z⟩ | q
      · cases z
      · cases z
      · exact ⟨a, b⟩
      · split at q
        · rename_i g hg
          obtain ⟨f, n, rfl⟩ := ixF_fn hg
          cases q
        · cases hl : t.cs.lookup y with
          | none => rw [hl] at q; cases q
          | some j => rw [hl] at q; cases q
    have h8 : y ∈ exc8 := by
      obtain ⟨a, b⟩ := hx
      simp only [exNames, List.mem_cons, List.not_mem_nil, or_false] at a
      rcases a with a | a | a | a | a | a | a | a | a <;> first | exact absurd a b | (subst a; decide)
    exact ⟨He.ga K y, hC y hx.1, He.exc_ok (faX_at c (by unfold faX; exact List.mem_append_right _ (List.mem_append_left _ (List.mem_map.mpr ⟨y, h8, rfl⟩))))⟩
  · have hx : y = ("TooMany" : Str) := by
      rcases cases4 _ _ q with ⟨_, z⟩ | ⟨a, z⟩ | ⟨_, _, z⟩ | q
      · cases z
      · exact a
      · cases z
      · split at q
        · rename_i g hg
          obtain ⟨f, n, rfl⟩ := ixF_fn hg
          cases q
        · cases hl : t.cs.lookup y with
          | none => rw [hl] at q; cases q
          | some j => rw [hl] at q; cases q
    subst hx
    obtain ⟨_, _, x3, _, x5, x6, _, _, _⟩ := exX_all x
    obtain ⟨fd, ps, b, F⟩ := init_at (P := P) (w := w) (base := base) ok c x hS
    exact ⟨He.ga K "TooMany", _, fd, ps, hC _ (by decide), x3, x5, x6, b, F⟩
  · have hx : y = ("_law_tried" : Str) := by
      rcases cases4 _ _ q with ⟨a, z⟩ | ⟨_, z⟩ | ⟨_, _, z⟩ | q
      · exact a
      · cases z
      · cases z
      · split at q
        · rename_i g hg
          obtain ⟨f, n, rfl⟩ := ixF_fn hg
          cases q
        · cases hl : t.cs.lookup y with
          | none => rw [hl] at q; cases q
          | some j => rw [hl] at q; cases q
    subst hx
    exact tri_at ok c X G x (free _ (by decide)) (free _ (by decide)) hS hC
/-- THE LAW'S END over the table -/
theorem tab_endT {l : PySem.W.OpenLaw} {li k m : Nat} {e : Fd} {x y : Str} {fa : Addr} (ok : TxOk t) (X : K.In h) (G : h.Ns mainGlobals mg) (hl : ∀ a o, K.lookup a = some o → o.cls ≠ .type "list") (c : He.SaysD t.fa t.fn K) (ex : exX K = true) (L : ∀ y ∈ t.lams, LamH K h y) (nd : (t.lams.map (tabOf K)).Nodup)
    (he : t.fns[li]? = some e) (hx : e.d.ps = [x]) (hn : e.name = y) (hmg : mg y = some (.ref fa)) (hv : ∀ ns : List Int, ns.length ≤ m → ∃ S, Phi (dfOf t.fns t.cs bf bv dv) (k + 1) li [.scr ns] [] = .ok (.val (.bl true)) S) :
    LamX.LawAtS l w K (fun _ _ _ _ _ _ => False) (lv (k + 1)) m x mg fa h := by
  have hm : e ∈ t.fns := List.mem_of_getElem? he
  obtain ⟨fd, F⟩ := fd_at c he
  have hga := glo_at c X G he
  have efa : fa = He.ga K e.name := by
    rw [hn, hmg] at hga
    have := Option.some.inj hga
    rw [hn]
    injection this
  have S := C8.fnScope_by (List.all_eq_true.mp ok.hs e hm)
  have hp1 : e.d.ps.length = 1 := by rw [hx]; rfl
  refine ⟨fd, csOf K t.lams, fun vs H Q _ => spF mg (TOf K t.lams) 1 (Phi (dfOf t.fns t.cs bf bv dv) (k + 1) li) vs H Q fun _ _ _ => False, fun p hp => ?_, fun p hp => ?_, fun p hp => ?_, fun s u => ?_, fun H a ns hlen _ hO hS => law_sp (df := dfOf t.fns t.cs bf bv dv) (k := k + 1) (f := li) (mg := mg) (T := TOf K t.lams) (fun o ho => hl a o ho) (fun p hp => ?_) hS (hv ns hlen), fun base hKb hNs TB => ?_⟩
  · obtain ⟨y, hy, rfl⟩ := List.mem_map.mp hp
    exact (L y hy).tab
  · obtain ⟨y, hy, rfl⟩ := List.mem_map.mp hp
    exact (L y hy).out
  · obtain ⟨y, hy, rfl⟩ := List.mem_map.mp hp
    exact codB_ok X (L y hy).hd
  · have := F.bindsA (ps := e.d.ps) (fun kV doc pm an cdv ct us hu => ok.hb.mem hm e.name e.name e.d.body e.d.sc kV doc pm an cdv ct us hu) s [u] (by rw [hp1]; rfl)
    rw [hx] at this
    exact this
  · obtain ⟨y, hy, rfl⟩ := List.mem_map.mp hp
    exact hO (codOf K y, tabOf K y) (List.mem_map.mpr ⟨y, hy, rfl⟩)
  · have Y : Wd l.prog w K mg base (TOf K t.lams) (tbOf t.fns t.cs) bf bv dv (dfOf t.fns t.cs bf bv dv) := wd_of ok X G c ex L nd TB
    have q := def_ok (P := l.prog) (w := w) (base := base) (j := lv k) (k := 3 * k + 6) (T := TOf K t.lams) (Φ := Phi (dfOf t.fns t.cs bf bv dv) k) (by unfold lv; omega) (by unfold lv; omega) Y F S (fun hl => lam_at F L nd TB hm hl) (all_ok Y k)
    have q2 := fn_quiet q
    rw [hx] at q2
    rw [efa]
    refine q2.imp fun vs H Q E z => ?_
    obtain ⟨z1, w0, ds, e1, e2, e3, e4⟩ := z
    refine ⟨z1, w0, ds, e1, e2, e3, ?_⟩
    have e5 : match (match dfOf t.fns t.cs bf bv dv li with
        | some e => if ds.length = e.ar then runF e.sz e.m (Phi (dfOf t.fns t.cs bf bv dv) k) ds w0.S else .no
        | none => .no) with
      | .ok r S' => ∀ v H' w', w'.ρ = [] → w'.S = S' → Good (TOf K t.lams) H' w' → Stp H w0.F w0.B (fun _ => False) H' w' → RelF H H' w' v r → Q v H'
      | .ex x S' => ∀ c d H' w', w'.ρ = [] → w'.S = S' → Good (TOf K t.lams) H' w' → Stp H w0.F w0.B (fun _ => False) H' w' → XOk mg x c d H' → False
      | .no => False := e4
    have e6 : dfOf t.fns t.cs bf bv dv li = some ⟨1, e.d.N.length, e.d.m (tbOf t.fns t.cs) bf bv dv⟩ := by
      unfold dfOf
      rw [he, ← hp1]; rfl
    rw [e6] at e5
    have hl1 : ds.length = 1 := by rw [← e3.length]; exact z1
    have e7 : match (if ds.length = 1 then runF e.d.N.length (e.d.m (tbOf t.fns t.cs) bf bv dv) (Phi (dfOf t.fns t.cs bf bv dv) k) ds w0.S else .no) with
      | .ok r S' => ∀ v H' w', w'.ρ = [] → w'.S = S' → Good (TOf K t.lams) H' w' → Stp H w0.F w0.B (fun _ => False) H' w' → RelF H H' w' v r → Q v H'
      | .ex x S' => ∀ c d H' w', w'.ρ = [] → w'.S = S' → Good (TOf K t.lams) H' w' → Stp H w0.F w0.B (fun _ => False) H' w' → XOk mg x c d H' → False
      | .no => False := e5
    rw [if_pos hl1] at e7
    exact e7
end
/-- as walk_ofTs, the fragment of the head's own -/
theorem walk_ofTE {l : PySem.W.OpenLaw} {n k : Nat} {q : Program} {loose : List Str} {XP : (Str → Option Value) → Heap → Prop} {YP : World → Heap → Prop} {d : DefRec} {CX : CXT} {x : Str}
    (hn : l.most = some n) (hn2 : n ≤ sizeLine) (hdf : d.params.defaults = []) (hr : Room k callerA)
    (F : ∀ (w : World) (mg : Str → Option Value) (fa : Addr) (h : Heap), YP w h → h.Ns mainGlobals mg → mg d.name = some (.ref fa) → ∃ K : PySem.W.Frag, K.In h ∧ LamX.LawAtS l w K CX k n x mg fa h)
    (hCX : ∀ (H : Hp) (s : Shared) (e : Value) (s' : Shared), CX [] H s (fun _ _ _ => False) e s' → False) : PySem.W.WalkO q loose XP YP l.row.toRowW d [] (fun f vs => PySem.call f vs) := by
  refine Att.attach_callB hn hdf fun w s₀ s₁ mg mb fa o pm cd doc a vs ns G Y ho hd hcd hmg hobj hints hlen hbits hg => ?_
  obtain ⟨K, KX, fd, cs, sp, hT, nT, C, hb, hsp, hF⟩ := F w mg fa _ Y G.T.g hmg
  exact LamX.law_callTs KX G.T.g G.T.b G.T.builtins G.T.nolimit hg hT nT C G.T.bmain hobj hints (Nat.le_trans hlen hn2) hr hF hb (fun H hH hS => hsp H a ns hlen hbits hH hS) fun H e s' => hCX H s₁ e s'
end DL
end

section
set_option Elab.async false
set_option linter.all false
set_option maxRecDepth 100000
set_option maxHeartbeats 0
namespace KK
open PySem PySem.Spec PyProof.Rows L2 DL
def top (i : Nat) : Stmt := PySem.Challenge.pw_steerloom_k14_what_can_not_be_put_togeth.main.body.getD i (.Pass ⟨0, 0, 0, 0⟩)
def f_is_whole : Fd := ⟨"is_whole", defArgs (top 21), ⟨["thing"], ["thing"], defScope (top 21), defBody (top 21), false⟩⟩
def f_is_within : Fd := ⟨"is_within", defArgs (top 22), ⟨["thing", "low", "high"], ["thing", "low", "high"], defScope (top 22), defBody (top 22), false⟩⟩
def f_is_row : Fd := ⟨"is_row", defArgs (top 23), ⟨["thing", "size"], ["thing", "size"], defScope (top 23), defBody (top 23), false⟩⟩
def f_is_range : Fd := ⟨"is_range", defArgs (top 24), ⟨["cap", "thing"], ["cap", "thing", "most"], defScope (top 24), defBody (top 24), false⟩⟩
def f_is_hold : Fd := ⟨"is_hold", defArgs (top 25), ⟨["thing"], ["thing"], defScope (top 25), defBody (top 25), false⟩⟩
def f_is_source : Fd := ⟨"is_source", defArgs (top 26), ⟨["cap", "senses", "places", "thing"], ["cap", "senses", "places", "thing"], defScope (top 26), defBody (top 26), false⟩⟩
def f_is_term : Fd := ⟨"is_term", defArgs (top 27), ⟨["cap", "senses", "places", "thing"], ["cap", "senses", "places", "thing"], defScope (top 27), defBody (top 27), false⟩⟩
def f_is_block : Fd := ⟨"is_block", defArgs (top 28), ⟨["cap", "senses", "places", "every", "thing"], ["cap", "senses", "places", "every", "thing", "word", "good", "one", "low", "high"], defScope (top 28), defBody (top 28), false⟩⟩
def f_are_blocks : Fd := ⟨"are_blocks", defArgs (top 29), ⟨["cap", "senses", "thing"], ["cap", "senses", "thing", "holds", "place", "one", "every"], defScope (top 29), defBody (top 29), false⟩⟩
def f_is_rule : Fd := ⟨"is_rule", defArgs (top 30), ⟨["thing"], ["thing", "cap", "senses", "blocks", "outs", "one"], defScope (top 30), defBody (top 30), false⟩⟩
def f_look_at_rule : Fd := ⟨"look_at_rule", defArgs (top 31), ⟨["rule"], ["rule"], defScope (top 31), defBody (top 31), false⟩⟩
def f_holds_of : Fd := ⟨"holds_of", defArgs (top 32), ⟨["rule"], ["rule", "place", "one"], defScope (top 32), defBody (top 32), false⟩⟩
def f_led : Fd := ⟨"led", defArgs (top 34), ⟨["source", "senses", "by"], ["source", "senses", "by"], defScope (top 34), defBody (top 34), false⟩⟩
def f_led_block : Fd := ⟨"led_block", defArgs (top 35), ⟨["block", "senses", "by"], ["block", "senses", "by", "factor", "source"], defScope (top 35), defBody (top 35), false⟩⟩
def f_looked_at : Fd := ⟨"looked_at", defArgs (top 36), ⟨["rule"], ["rule"], defScope (top 36), defBody (top 36), false⟩⟩
def f_look_at_caps : Fd := ⟨"look_at_caps", defArgs (top 37), ⟨["one", "other"], ["one", "other"], defScope (top 37), defBody (top 37), false⟩⟩
def f_fed : Fd := ⟨"fed", defArgs (top 38), ⟨["one", "other"], ["one", "other", "many", "bounds", "source", "some", "senses", "place", "by", "blocks", "block", "outs"], defScope (top 38), defBody (top 38), false⟩⟩
def f_beside : Fd := ⟨"beside", defArgs (top 39), ⟨["one", "other"], ["one", "other", "by", "senses", "place", "blocks", "block", "outs", "source"], defScope (top 39), defBody (top 39), false⟩⟩
def f_closed : Fd := ⟨"closed", defArgs (top 40), ⟨["rule", "first"], ["rule", "first", "low", "high", "left", "senses", "place", "hold", "bound", "blocks", "block", "source"], defScope (top 40), defBody (top 40), false⟩⟩
def f__law_well : Fd := ⟨"_law_well", defArgs (top 42), ⟨["_law_cell", "_law_turn"], ["_law_cell", "_law_turn"], defScope (top 42), defBody (top 42), false⟩⟩
def f__law_take : Fd := ⟨"_law_take", defArgs (top 43), ⟨["_law_bag", "_law_many"], ["_law_bag", "_law_many", "_law_found", "_law_p", "_law_n"], defScope (top 43), defBody (top 43), false⟩⟩
def f__law_bags : Fd := ⟨"_law_bags", defArgs (top 44), ⟨["_law_script", "_law_most"], ["_law_script", "_law_most", "_law_k", "_law_cell"], defScope (top 44), defBody (top 44), false⟩⟩
def f__law_kind : Fd := ⟨"_law_kind", defArgs (top 45), ⟨["_law_e"], ["_law_e", "_law_some", "_law_words", "_law_word", "_law_good"], defScope (top 45), defBody (top 45), false⟩⟩
def f__law_tried : Fd := ⟨"_law_tried", defArgs (top 46), ⟨["_law_deed"], ["_law_deed", "_law_found", "_law_e"], defScope (top 46), defBody (top 46), false⟩⟩
def f__law_blocks : Fd := ⟨"_law_blocks", defArgs (top 47), ⟨["_law_many", "_law_holds1"], ["_law_many", "_law_holds1"], defScope (top 47), defBody (top 47), false⟩⟩
def f__law_sizes_right : Fd := ⟨"_law_sizes_right", defArgs (top 48), ⟨["_law_cap", "_law_some"], ["_law_cap", "_law_some", "_law_sizes", "_law_many", "_law_holds1", "_law_size", "_law_more", "_law_most", "_law_left", "_law_right", "_law_due", "_law_found"], defScope (top 48), defBody (top 48), true⟩⟩
def f_law : Fd := ⟨"law", defArgs (top 49), ⟨["_law_script"], ["_law_script", "_law_bag", "_law_cap", "_law_some", "_law_one", "_law_two", "_law_pair", "_law_both", "_law_none", "_law_other", "_law_odd"], defScope (top 49), defBody (top 49), true⟩⟩
def fns : List Fd := [f_is_whole, f_is_within, f_is_row, f_is_range, f_is_hold, f_is_source, f_is_term, f_is_block, f_are_blocks, f_is_rule, f_look_at_rule, f_holds_of, f_led, f_led_block, f_looked_at, f_look_at_caps, f_fed, f_beside, f_closed, f__law_well, f__law_take, f__law_bags, f__law_kind, f__law_tried, f__law_blocks, f__law_sizes_right, f_law]
def cs : List (Str × Int) := [("MOST_CAP", 9), ("MOST_SENSE", 3), ("MOST_SENSES", 2), ("MOST_BLOCKS", 24), ("MOST_HOLDS", 4), ("MOST_OUTS", 2), ("MOST_TERMS", 3), ("MOST_FACTOR", 3), ("MOST_SHARE", 5)]
def bf (x : Str) : Bool := x == ("_law_well" : Str)
def bv (x : Str) : Bool := x == ("_law_spots" : Str)
def dv (x : Str) : Bool := x == ("figures" : Str) || x == ("_law_figures" : Str)
theorem b_is_whole : BindOk f_is_whole.params f_is_whole.d.ps := fun _ _ _ _ _ _ _ _ _ _ us hl => match us, hl with | [_], _ => rfl
theorem b_is_within : BindOk f_is_within.params f_is_within.d.ps := fun _ _ _ _ _ _ _ _ _ _ us hl => match us, hl with | [_, _, _], _ => rfl
theorem b_is_row : BindOk f_is_row.params f_is_row.d.ps := fun _ _ _ _ _ _ _ _ _ _ us hl => match us, hl with | [_, _], _ => rfl
theorem b_is_range : BindOk f_is_range.params f_is_range.d.ps := fun _ _ _ _ _ _ _ _ _ _ us hl => match us, hl with | [_, _], _ => rfl
theorem b_is_hold : BindOk f_is_hold.params f_is_hold.d.ps := fun _ _ _ _ _ _ _ _ _ _ us hl => match us, hl with | [_], _ => rfl
theorem b_is_source : BindOk f_is_source.params f_is_source.d.ps := fun _ _ _ _ _ _ _ _ _ _ us hl => match us, hl with | [_, _, _, _], _ => rfl
theorem b_is_term : BindOk f_is_term.params f_is_term.d.ps := fun _ _ _ _ _ _ _ _ _ _ us hl => match us, hl with | [_, _, _, _], _ => rfl
theorem b_is_block : BindOk f_is_block.params f_is_block.d.ps := fun _ _ _ _ _ _ _ _ _ _ us hl => match us, hl with | [_, _, _, _, _], _ => rfl
theorem b_are_blocks : BindOk f_are_blocks.params f_are_blocks.d.ps := fun _ _ _ _ _ _ _ _ _ _ us hl => match us, hl with | [_, _, _], _ => rfl
theorem b_is_rule : BindOk f_is_rule.params f_is_rule.d.ps := fun _ _ _ _ _ _ _ _ _ _ us hl => match us, hl with | [_], _ => rfl
theorem b_look_at_rule : BindOk f_look_at_rule.params f_look_at_rule.d.ps := fun _ _ _ _ _ _ _ _ _ _ us hl => match us, hl with | [_], _ => rfl
theorem b_holds_of : BindOk f_holds_of.params f_holds_of.d.ps := fun _ _ _ _ _ _ _ _ _ _ us hl => match us, hl with | [_], _ => rfl
theorem b_led : BindOk f_led.params f_led.d.ps := fun _ _ _ _ _ _ _ _ _ _ us hl => match us, hl with | [_, _, _], _ => rfl
theorem b_led_block : BindOk f_led_block.params f_led_block.d.ps := fun _ _ _ _ _ _ _ _ _ _ us hl => match us, hl with | [_, _, _], _ => rfl
theorem b_looked_at : BindOk f_looked_at.params f_looked_at.d.ps := fun _ _ _ _ _ _ _ _ _ _ us hl => match us, hl with | [_], _ => rfl
theorem b_look_at_caps : BindOk f_look_at_caps.params f_look_at_caps.d.ps := fun _ _ _ _ _ _ _ _ _ _ us hl => match us, hl with | [_, _], _ => rfl
theorem b_fed : BindOk f_fed.params f_fed.d.ps := fun _ _ _ _ _ _ _ _ _ _ us hl => match us, hl with | [_, _], _ => rfl
theorem b_beside : BindOk f_beside.params f_beside.d.ps := fun _ _ _ _ _ _ _ _ _ _ us hl => match us, hl with | [_, _], _ => rfl
theorem b_closed : BindOk f_closed.params f_closed.d.ps := fun _ _ _ _ _ _ _ _ _ _ us hl => match us, hl with | [_, _], _ => rfl
theorem b__law_well : BindOk f__law_well.params f__law_well.d.ps := fun _ _ _ _ _ _ _ _ _ _ us hl => match us, hl with | [_, _], _ => rfl
theorem b__law_take : BindOk f__law_take.params f__law_take.d.ps := fun _ _ _ _ _ _ _ _ _ _ us hl => match us, hl with | [_, _], _ => rfl
theorem b__law_bags : BindOk f__law_bags.params f__law_bags.d.ps := fun _ _ _ _ _ _ _ _ _ _ us hl => match us, hl with | [_, _], _ => rfl
theorem b__law_kind : BindOk f__law_kind.params f__law_kind.d.ps := fun _ _ _ _ _ _ _ _ _ _ us hl => match us, hl with | [_], _ => rfl
theorem b__law_tried : BindOk f__law_tried.params f__law_tried.d.ps := fun _ _ _ _ _ _ _ _ _ _ us hl => match us, hl with | [_], _ => rfl
theorem b__law_blocks : BindOk f__law_blocks.params f__law_blocks.d.ps := fun _ _ _ _ _ _ _ _ _ _ us hl => match us, hl with | [_, _], _ => rfl
theorem b__law_sizes_right : BindOk f__law_sizes_right.params f__law_sizes_right.d.ps := fun _ _ _ _ _ _ _ _ _ _ us hl => match us, hl with | [_, _], _ => rfl
theorem b_law : BindOk f_law.params f_law.d.ps := fun _ _ _ _ _ _ _ _ _ _ us hl => match us, hl with | [_], _ => rfl
theorem hb : AllB fns := ⟨b_is_whole, b_is_within, b_is_row, b_is_range, b_is_hold, b_is_source, b_is_term, b_is_block, b_are_blocks, b_is_rule, b_look_at_rule, b_holds_of, b_led, b_led_block, b_looked_at, b_look_at_caps, b_fed, b_beside, b_closed, b__law_well, b__law_take, b__law_bags, b__law_kind, b__law_tried, b__law_blocks, b__law_sizes_right, b_law, trivial⟩
theorem hs : (fns.all fun e => C8.scC e.d.N e.d.ps e.d.sc) = true := by kernel_rfl
def kpL : List Pos := [⟨175, 4, 175, 13⟩, ⟨175, 17, 175, 27⟩, ⟨175, 28, 175, 34⟩, ⟨175, 36, 175, 42⟩, ⟨175, 17, 175, 43⟩, ⟨175, 45, 175, 55⟩, ⟨175, 56, 175, 62⟩, ⟨175, 64, 175, 72⟩, ⟨175, 45, 175, 73⟩, ⟨175, 75, 175, 85⟩, ⟨175, 86, 175, 92⟩, ⟨175, 94, 175, 101⟩, ⟨175, 75, 175, 102⟩, ⟨175, 104, 175, 114⟩, ⟨175, 115, 175, 121⟩, ⟨175, 123, 175, 131⟩, ⟨175, 104, 175, 132⟩, ⟨175, 16, 175, 133⟩, ⟨175, 4, 175, 133⟩, ⟨176, 4, 176, 13⟩, ⟨176, 16, 176, 25⟩, ⟨176, 29, 176, 39⟩, ⟨176, 40, 176, 46⟩, ⟨176, 48, 176, 55⟩, ⟨176, 29, 176, 56⟩, ⟨176, 58, 176, 68⟩, ⟨176, 69, 176, 75⟩, ⟨176, 77, 176, 83⟩, ⟨176, 58, 176, 84⟩, ⟨176, 86, 176, 96⟩, ⟨176, 97, 176, 103⟩, ⟨176, 105, 176, 112⟩, ⟨176, 86, 176, 113⟩, ⟨176, 115, 176, 125⟩, ⟨176, 126, 176, 132⟩, ⟨176, 134, 176, 140⟩, ⟨176, 115, 176, 141⟩, ⟨176, 28, 176, 142⟩, ⟨176, 16, 176, 142⟩, ⟨176, 4, 176, 142⟩, ⟨177, 4, 177, 14⟩, ⟨177, 18, 177, 26⟩, ⟨177, 28, 177, 38⟩, ⟨177, 40, 177, 49⟩, ⟨177, 51, 177, 61⟩, ⟨177, 63, 177, 72⟩, ⟨177, 74, 177, 82⟩, ⟨177, 84, 177, 93⟩, ⟨177, 95, 177, 103⟩, ⟨177, 105, 177, 114⟩, ⟨177, 17, 177, 115⟩, ⟨177, 4, 177, 115⟩, ⟨178, 11, 178, 13⟩, ⟨178, 11, 178, 18⟩, ⟨178, 20, 178, 29⟩, ⟨178, 34, 178, 43⟩, ⟨178, 45, 178, 54⟩, ⟨178, 34, 178, 54⟩, ⟨178, 58, 178, 61⟩, ⟨178, 62, 178, 72⟩, ⟨178, 74, 178, 83⟩, ⟨178, 87, 178, 97⟩, ⟨178, 98, 178, 104⟩, ⟨178, 106, 178, 113⟩, ⟨178, 87, 178, 114⟩, ⟨178, 86, 178, 115⟩, ⟨178, 74, 178, 115⟩, ⟨178, 58, 178, 116⟩, ⟨178, 120, 178, 129⟩, ⟨178, 19, 178, 130⟩, ⟨178, 11, 178, 131⟩, ⟨178, 4, 178, 131⟩]
def tpL : List Pos := [⟨180, 4, 180, 14⟩, ⟨180, 18, 180, 24⟩, ⟨180, 17, 180, 26⟩, ⟨180, 4, 180, 26⟩, ⟨182, 8, 182, 18⟩, ⟨182, 22, 182, 28⟩, ⟨182, 30, 182, 39⟩, ⟨182, 30, 182, 41⟩, ⟨182, 21, 182, 42⟩, ⟨182, 8, 182, 42⟩, ⟨183, 11, 183, 18⟩, ⟨184, 8, 184, 18⟩, ⟨184, 22, 184, 31⟩, ⟨184, 32, 184, 38⟩, ⟨184, 22, 184, 39⟩, ⟨184, 41, 184, 47⟩, ⟨184, 41, 184, 52⟩, ⟨184, 21, 184, 53⟩, ⟨184, 8, 184, 53⟩, ⟨183, 4, 184, 53⟩, ⟨185, 11, 185, 21⟩, ⟨186, 8, 186, 18⟩, ⟨186, 22, 186, 31⟩, ⟨186, 32, 186, 38⟩, ⟨186, 22, 186, 39⟩, ⟨186, 21, 186, 41⟩, ⟨186, 8, 186, 41⟩, ⟨185, 4, 186, 41⟩, ⟨181, 4, 186, 41⟩, ⟨187, 11, 187, 21⟩, ⟨187, 4, 187, 21⟩]
def ipL : List Pos := [⟨23, 8, 23, 18⟩, ⟨23, 8, 23, 27⟩, ⟨23, 28, 23, 32⟩, ⟨23, 34, 23, 58⟩, ⟨23, 8, 23, 59⟩, ⟨23, 8, 23, 59⟩, ⟨24, 8, 24, 12⟩, ⟨24, 8, 24, 17⟩, ⟨24, 20, 24, 24⟩, ⟨24, 8, 24, 24⟩]
def pAt (l : List Pos) (i : Nat) : Pos := l.getD i ⟨0, 0, 0, 0⟩
def clsSt (s : Stmt) (j : Nat) : Stmt := match s with
  | .ClassDef (body := b) .. => b.getD j (.Pass ⟨0, 0, 0, 0⟩)
  | _ => .Pass ⟨0, 0, 0, 0⟩
def iniS : Stmt := clsSt (top 10) 0
def ini : He.DefD := ⟨("TooMany", some "__init__"), "__init__", "TooMany.__init__", defArgs iniS, defBody iniS, defScope iniS, [], []⟩
def tx : Tx := ⟨fns, cs, ini, 22, 23, pAt kpL, pAt tpL, pAt ipL⟩
theorem b_ini : BindOk (defArgs iniS) ["self", "most"] := fun _ _ _ _ _ _ _ _ _ _ us hl => match us, hl with | [_, _], _ => rfl
theorem txok : TxOk tx := ⟨hb, hs, ⟨defArgs (top 45), by kernel_rfl⟩, ⟨defArgs (top 46), by kernel_rfl⟩, by kernel_rfl, ⟨defArgs iniS, by kernel_rfl, b_ini⟩, fun env => ⟨_, rfl⟩⟩
abbrev rowK : PySem.W.OpenRow := PySem.W.OpenLaw.row PySem.Challenge.rw_steerloom_k14_what_can_not_be_put_togeth
abbrev hk : PySem.W.Hook := hookL tx.lams tx.fa tx.fn
def ob (s : PySem.W.SharedT) : He.AlD × Bool := obsL tx.lams tx.fa tx.fn (HandSHeadRun.getT s)
theorem ob_eq (s : PySem.W.SharedT) : ob s = hk.obs s.abs := obsL_eq (HandSHeadRun.getT_eq s)
def nm0 : List Str := ["__name__", "SteerError", "NoRule", "NoSenses", "NoState", "NoBounds", "NoPlace", "NoRows", "NoFirst", "Unlike", "TooMany", "MOST_CAP", "MOST_SENSE", "MOST_SENSES", "MOST_BLOCKS", "MOST_HOLDS", "MOST_OUTS", "MOST_TERMS", "MOST_FACTOR", "MOST_SHARE", "is_whole", "is_within", "is_row", "is_range", "is_hold", "is_source", "is_term", "is_block", "are_blocks", "is_rule"]
def nm1 : List Str := ["look_at_rule", "holds_of", "led", "led_block", "looked_at", "look_at_caps", "fed", "beside", "closed", "_law_well", "_law_take", "_law_bags", "_law_kind", "_law_tried", "_law_blocks", "_law_sizes_right"]
def nms : List Str := nm0 ++ nm1
theorem run (w : World) : HandSHeadRun.RunEq rowK (PySem.W.view rowK.prog [49]) hk ob 20000 nms w := by
  intro os
  kernel_rfl
def df : Nat → Option Fe := dfOf fns cs bf bv dv
theorem law_ix : tbOf fns cs "law" = some (.fn 26 1) := by kernel_rfl
end KK
open PySem PySem.W PySem.Calls PyProof.Rows
theorem holds_of (hv : ∀ ns : List Int, ns.length ≤ 63 → ∃ S, DL.Phi KK.df 16 26 [.scr ns] [] = .ok (.val (.bl true)) S) : PySem.Challenge.rw_steerloom_k14_what_can_not_be_put_togeth.Holds := by
  w_on; o_law
  refine HandSHeadRun.head_any (r := OpenLaw.row PySem.Challenge.rw_steerloom_k14_what_can_not_be_put_togeth) (q := view (OpenLaw.row PySem.Challenge.rw_steerloom_k14_what_can_not_be_put_togeth).prog [49]) (H := KK.hk) (ob := KK.ob) (M := 20000) (loose := KK.nms) (d := HandSHeadRun.topDef (OpenLaw.row PySem.Challenge.rw_steerloom_k14_what_can_not_be_put_togeth).prog 49) (kwd := []) KK.ob_eq
    (by kernel_rfl) (fun s => by kernel_rfl) KK.run (by kernel_rfl) (by kernel_rfl) (by kernel_rfl) (by rfl) (by first | assumption | decide +kernel) (by decide +kernel) ⟨rfl, rfl, rfl, rfl, rfl, by decide +kernel⟩ ?hw ?hc
  case hw => w_witness2
  case hc =>
    refine DL.walk_ofTE (l := PySem.Challenge.rw_steerloom_k14_what_can_not_be_put_togeth) (n := 63) (k := DL.lv 16) (x := "_law_script") (CX := fun _ _ _ _ _ _ => False) rfl (by decide) (by kernel_rfl) ⟨rfl, by decide, by decide⟩ ?F (fun _ _ _ _ z => z)
    case F =>
      intro w mg fa h Y G hmg0
      obtain ⟨K, KX, hl, c, ex, L, nd⟩ := Y
      have hmg : mg ("law" : PySem.Str) = some (.ref fa) := by
        have e : (HandSHeadRun.topDef (OpenLaw.row PySem.Challenge.rw_steerloom_k14_what_can_not_be_put_togeth).prog 49).name = ("law" : PySem.Str) := by kernel_rfl
        rw [← e]
        exact hmg0
      exact ⟨K, KX, DL.tab_endT (t := KK.tx) (bf := KK.bf) (bv := KK.bv) (dv := KK.dv) (k := 15) (m := 63) KK.txok KX G hl c ex L nd (li := 26) (e := KK.f_law) rfl rfl rfl hmg hv⟩
end

section
set_option Elab.async false
set_option linter.all false
set_option maxRecDepth 100000
set_option maxHeartbeats 0
namespace KK
open PySem DL
def m_is_whole : M Fl := (mRet (mAndV (mOp1 (opIsi .int) (mBor 0)) (mNotV (mOp1 (opIsi .bool) (mBor 0)))))
theorem e_is_whole : f_is_whole.d.m (tbOf fns cs) bf bv dv = m_is_whole := by kernel_rfl
def m_is_within : M Fl := (mRet (mAndV (mAuto (mCall 0 (mArgs [(mVar 0)]))) (mChain (fun i j => decide (i ≤ j)) (fun i j => decide (i ≤ j)) (mBor 1) (mBor 0) (mBor 2))))
theorem e_is_within : f_is_within.d.m (tbOf fns cs) bf bv dv = m_is_within := by kernel_rfl
def m_is_row : M Fl := (mRet (mAndV (mOp1 (opIsi .tuple) (mBor 0)) (mOp2 opEq (mLenS (mBor 0)) (mBor 1))))
theorem e_is_row : f_is_row.d.m (tbOf fns cs) bf bv dv = m_is_row := by kernel_rfl
def m_is_range : M Fl := (mSeq (mAsg 2 (mB opMin (mLooks [(mBor 0), (mC (.int 3))]))) (mRet (mAndV (mAuto (mCall 2 (mArgs [(mVar 1), (mC (.int 2))]))) (mAndV (mAuto (mCall 1 (mArgs [(mIxA (mBor 1) (mC (.int 0))), (mOp2 opSub (mC (.int 0)) (mBor 2)), (mVar 2)]))) (mAuto (mCall 1 (mArgs [(mIxA (mBor 1) (mC (.int 1))), (mIxA (mBor 1) (mC (.int 0))), (mVar 2)])))))))
theorem e_is_range : f_is_range.d.m (tbOf fns cs) bf bv dv = m_is_range := by kernel_rfl
def m_is_hold : M Fl := (mRet (mAndV (mAuto (mCall 2 (mArgs [(mVar 0), (mC (.int 3))]))) (mAndV (mOp1 (opIsi .str) (mIxA (mBor 0) (mC (.int 0)))) (mOp2 opEq (mIxA (mBor 0) (mC (.int 0))) (mC (.str "hold"))))))
theorem e_is_hold : f_is_hold.d.m (tbOf fns cs) bf bv dv = m_is_hold := by kernel_rfl
def m_is_source : M Fl := (mSeq (mIf (mOr (mNot (mBool (mAuto (mCall 2 (mArgs [(mVar 3), (mC (.int 2))]))))) (mNot (mBool (mOp1 (opIsi .str) (mIxA (mBor 3) (mC (.int 0))))))) (mRet (mC (.bl false))) mSkip) (mSeq (mIf (mBool (mOp2 opEq (mIxA (mBor 3) (mC (.int 0))) (mC (.str "in")))) (mRet (mAuto (mCall 1 (mArgs [(mIxA (mBor 3) (mC (.int 1))), (mC (.int 0)), (mOp2 opSub (mLenS (mBor 1)) (mC (.int 1)))])))) mSkip) (mSeq (mIf (mBool (mOp2 opEq (mIxA (mBor 3) (mC (.int 0))) (mC (.str "is")))) (mRet (mAuto (mCall 1 (mArgs [(mIxA (mBor 3) (mC (.int 1))), (mOp2 opSub (mC (.int 0)) (mBor 0)), (mVar 0)])))) mSkip) (mRet (mAndV (mOp2 opEq (mIxA (mBor 3) (mC (.int 0))) (mC (.str "of"))) (mAndV (mAuto (mCall 0 (mArgs [(mIxA (mBor 3) (mC (.int 1)))]))) (mOp2 opInA (mIxA (mBor 3) (mC (.int 1))) (mBor 2))))))))
theorem e_is_source : f_is_source.d.m (tbOf fns cs) bf bv dv = m_is_source := by kernel_rfl
def m_is_term : M Fl := (mSeq (mIf (mOr (mNot (mBool (mAuto (mCall 2 (mArgs [(mVar 3), (mC (.int 2))]))))) (mNot (mBool (mAuto (mCall 1 (mArgs [(mIxA (mBor 3) (mC (.int 0))), (mOp2 opSub (mC (.int 0)) (mC (.int 3))), (mC (.int 3))])))))) (mRet (mC (.bl false))) mSkip) (mRet (mAuto (mCall 5 (mArgs [(mVar 0), (mVar 1), (mVar 2), (mIxA (mBor 3) (mC (.int 1)))])))))
theorem e_is_term : f_is_term.d.m (tbOf fns cs) bf bv dv = m_is_term := by kernel_rfl
def m_is_block : M Fl := (mSeq (mIf (mOr (mNot (mBool (mOp1 (opIsi .tuple) (mBor 4)))) (mOr (mBool (mOp2 opEq (mBor 4) (mTup (mArgs [])))) (mNot (mBool (mOp1 (opIsi .str) (mIxA (mBor 4) (mC (.int 0)))))))) (mRet (mC (.bl false))) mSkip) (mSeq (mAsg 5 (mIxA (mBor 4) (mC (.int 0)))) (mSeq (mIf (mAnd (mBool (mOp2 opEq (mBor 5) (mC (.str "sum")))) (mAnd (mBool (mOp2 opEq (mLenS (mBor 4)) (mC (.int 2)))) (mBool (mOp1 (opIsi .tuple) (mIxA (mBor 4) (mC (.int 1))))))) (mSeq (mAsg 6 (mComp (mSeqI (mIxA (mBor 4) (mC (.int 1)))) (.name 7) [7] (fun _ s => .ok true s) (mAuto (mCall 6 (mArgs [(mVar 0), (mVar 1), (mVar 2), (mVar 7)]))))) (mRet (mAndV (mChain (fun i j => decide (i ≤ j)) (fun i j => decide (i ≤ j)) (mC (.int 1)) (mLenS (mBor 6)) (mC (.int 3))) (mB opAll (mLooks [(mBor 6)]))))) mSkip) (mSeq (mIf (mAnd (mBool (mOp2 opEq (mBor 5) (mC (.str "share")))) (mBool (mOp2 opEq (mLenS (mBor 4)) (mC (.int 3))))) (mRet (mAndV (mAuto (mCall 5 (mArgs [(mVar 0), (mVar 1), (mVar 2), (mIxA (mBor 4) (mC (.int 1)))]))) (mAuto (mCall 1 (mArgs [(mIxA (mBor 4) (mC (.int 2))), (mC (.int 2)), (mC (.int 5))]))))) mSkip) (mSeq (mIf (mAnd (mBool (mOp2 opEq (mBor 5) (mC (.str "bound")))) (mBool (mOp2 opEq (mLenS (mBor 4)) (mC (.int 4))))) (mSeq (mPar [8, 9] (mRs [(mIxA (mBor 4) (mC (.int 2))), (mIxA (mBor 4) (mC (.int 3)))])) (mRet (mAndV (mAuto (mCall 5 (mArgs [(mVar 0), (mVar 1), (mVar 2), (mIxA (mBor 4) (mC (.int 1)))]))) (mAndV (mAuto (mCall 1 (mArgs [(mVar 8), (mOp2 opSub (mC (.int 0)) (mBor 0)), (mVar 0)]))) (mAuto (mCall 1 (mArgs [(mVar 9), (mVar 8), (mVar 0)]))))))) mSkip) (mSeq (mIf (mAnd (mBool (mOp2 opEq (mBor 5) (mC (.str "pick")))) (mBool (mOp2 opEq (mLenS (mBor 4)) (mC (.int 5))))) (mRet (mB opAll (mLooks [(mComp (mSeqI (mSl (mBor 4) (some (mC (.int 1))) none)) (.name 7) [7] (fun _ s => .ok true s) (mAuto (mCall 5 (mArgs [(mVar 0), (mVar 1), (mVar 2), (mVar 7)]))))]))) mSkip) (mSeq (mIf (mAnd (mBool (mOp2 opEq (mBor 5) (mC (.str "hold")))) (mBool (mOp2 opEq (mLenS (mBor 4)) (mC (.int 3))))) (mRet (mAndV (mAuto (mCall 5 (mArgs [(mVar 0), (mVar 1), (mVar 3), (mIxA (mBor 4) (mC (.int 1)))]))) (mAuto (mCall 1 (mArgs [(mIxA (mBor 4) (mC (.int 2))), (mOp2 opSub (mC (.int 0)) (mBor 0)), (mVar 0)]))))) mSkip) (mRet (mC (.bl false))))))))))
theorem e_is_block : f_is_block.d.m (tbOf fns cs) bf bv dv = m_is_block := by kernel_rfl
def m_are_blocks : M Fl := (mSeq (mIf (mOr (mNot (mBool (mOp1 (opIsi .tuple) (mBor 2)))) (mBool (mOp2 opGt (mLenS (mBor 2)) (mC (.int 24))))) (mRet (mC (.bl false))) mSkip) (mSeq (mAsg 3 (mComp (mEnum (mArgs [(mVar 2)])) (.tup [(.name 4), (.name 5)]) [4, 5] (mBool (mAuto (mCall 4 (mArgs [(mVar 5)])))) (mVar 4))) (mSeq (mIf (mBool (mOp2 opGt (mLenS (mBor 3)) (mC (.int 4)))) (mRet (mC (.bl false))) mSkip) (mSeq (mAsg 6 (mOp1 opLr1 (mLenS (mBor 2)))) (mSeq (mFor (mEnum (mArgs [(mVar 2)])) (.tup [(.name 4), (.name 5)]) (mIf (mNot (mBool (mAuto (mCall 7 (mArgs [(mVar 0), (mVar 1), (mOp2 opAdd (mSl (mBor 6) none (some (mBor 4))) (mBor 3)), (mVar 6), (mVar 5)]))))) (mRet (mC (.bl false))) mSkip)) (mRet (mC (.bl true))))))))
theorem e_are_blocks : f_are_blocks.d.m (tbOf fns cs) bf bv dv = m_are_blocks := by kernel_rfl
def m_is_rule : M Fl := (mSeq (mIf (mOr (mNot (mBool (mAuto (mCall 2 (mArgs [(mVar 0), (mC (.int 4))]))))) (mNot (mBool (mAuto (mCall 1 (mArgs [(mIxA (mBor 0) (mC (.int 0))), (mC (.int 1)), (mC (.int 9))])))))) (mRet (mC (.bl false))) mSkip) (mSeq (mAsgT (.tup [(.name 1), (.name 2), (.name 3), (.name 4)]) (mVar 0)) (mSeq (mIf (mOr (mNot (mBool (mOp1 (opIsi .tuple) (mBor 2)))) (mOr (mBool (mOp2 opGt (mLenS (mBor 2)) (mC (.int 2)))) (mNot (mBool (mB opAll (mLooks [(mComp (mSeqI (mVar 2)) (.name 5) [5] (fun _ s => .ok true s) (mAuto (mCall 3 (mArgs [(mVar 1), (mVar 5)]))))])))))) (mRet (mC (.bl false))) mSkip) (mSeq (mIf (mOr (mNot (mBool (mAuto (mCall 8 (mArgs [(mVar 1), (mVar 2), (mVar 3)]))))) (mOr (mNot (mBool (mOp1 (opIsi .tuple) (mBor 4)))) (mNot (mBool (mChain (fun i j => decide (i ≤ j)) (fun i j => decide (i ≤ j)) (mC (.int 1)) (mLenS (mBor 4)) (mC (.int 2))))))) (mRet (mC (.bl false))) mSkip) (mRet (mB opAll (mLooks [(mComp (mSeqI (mVar 4)) (.name 5) [5] (fun _ s => .ok true s) (mAuto (mCall 5 (mArgs [(mVar 1), (mVar 2), (mOp1 opLr1 (mLenS (mBor 3))), (mVar 5)]))))])))))))
theorem e_is_rule : f_is_rule.d.m (tbOf fns cs) bf bv dv = m_is_rule := by kernel_rfl
def m_look_at_rule : M Fl := (mIf (mNot (mBool (mAuto (mCall 9 (mArgs [(mVar 0)]))))) (mRaise "NoRule") mSkip)
theorem e_look_at_rule : f_look_at_rule.d.m (tbOf fns cs) bf bv dv = m_look_at_rule := by kernel_rfl
def m_holds_of : M Fl := (mRet (mComp (mEnum (mArgs [(mIxA (mBor 0) (mC (.int 2)))])) (.tup [(.name 1), (.name 2)]) [1, 2] (mBool (mOp2 opEq (mIxA (mBor 2) (mC (.int 0))) (mC (.str "hold")))) (mVar 1)))
theorem e_holds_of : f_holds_of.d.m (tbOf fns cs) bf bv dv = m_holds_of := by kernel_rfl
def m_led : M Fl := (mSeq (mIf (mBool (mOp2 opEq (mIxA (mBor 0) (mC (.int 0))) (mC (.str "in")))) (mRet (mIxA (mBor 1) (mIxA (mBor 0) (mC (.int 1))))) mSkip) (mRet (mIfE (mBool (mOp2 opEq (mIxA (mBor 0) (mC (.int 0))) (mC (.str "of")))) (mTup (mArgs [(mC (.str "of")), (mOp2 opAdd (mIxA (mBor 0) (mC (.int 1))) (mBor 2))])) (mVar 0))))
theorem e_led : f_led.d.m (tbOf fns cs) bf bv dv = m_led := by kernel_rfl
def m_led_block : M Fl := (mSeq (mIf (mBool (mOp2 opEq (mIxA (mBor 0) (mC (.int 0))) (mC (.str "sum")))) (mRet (mTup (mArgs [(mC (.str "sum")), (mB opTuple (mLooks [(mComp (mSeqI (mIxA (mBor 0) (mC (.int 1)))) (.tup [(.name 3), (.name 4)]) [3, 4] (fun _ s => .ok true s) (mTup (mArgs [(mVar 3), (mAuto (mCall 12 (mArgs [(mVar 4), (mVar 1), (mVar 2)])))])))]))]))) mSkip) (mSeq (mIf (mBool (mOp2 opEq (mIxA (mBor 0) (mC (.int 0))) (mC (.str "pick")))) (mRet (mOp2 opAdd (mTup (mArgs [(mC (.str "pick"))])) (mB opTuple (mLooks [(mComp (mSeqI (mSl (mBor 0) (some (mC (.int 1))) none)) (.name 4) [4] (fun _ s => .ok true s) (mAuto (mCall 12 (mArgs [(mVar 4), (mVar 1), (mVar 2)]))))])))) mSkip) (mRet (mOp2 opAdd (mTup (mArgs [(mIxA (mBor 0) (mC (.int 0))), (mAuto (mCall 12 (mArgs [(mIxA (mBor 0) (mC (.int 1))), (mVar 1), (mVar 2)])))])) (mSl (mBor 0) (some (mC (.int 2))) none)))))
theorem e_led_block : f_led_block.d.m (tbOf fns cs) bf bv dv = m_led_block := by kernel_rfl
def m_looked_at : M Fl := (mSeq (mIf (mBool (mOp2 opGt (mLenS (mIxA (mBor 0) (mC (.int 2)))) (mC (.int 24)))) (mRaise1 "TooMany" (mArgs [(mC (.int 24))])) mSkip) (mSeq (mIf (mBool (mOp2 opGt (mLenS (mAuto (mCall 11 (mArgs [(mVar 0)])))) (mC (.int 4)))) (mRaise1 "TooMany" (mArgs [(mC (.int 4))])) mSkip) (mRetV 0)))
theorem e_looked_at : f_looked_at.d.m (tbOf fns cs) bf bv dv = m_looked_at := by kernel_rfl
def m_look_at_caps : M Fl := (mSeq (mDrop (mAuto (mCall 10 (mArgs [(mVar 0)])))) (mSeq (mDrop (mAuto (mCall 10 (mArgs [(mVar 1)])))) (mIf (mBool (mOp2 opNe (mIxA (mBor 0) (mC (.int 0))) (mIxA (mBor 1) (mC (.int 0))))) (mRaise "Unlike") mSkip)))
theorem e_look_at_caps : f_look_at_caps.d.m (tbOf fns cs) bf bv dv = m_look_at_caps := by kernel_rfl
def m_fed : M Fl := (mSeq (mDrop (mAuto (mCall 15 (mArgs [(mVar 0), (mVar 1)])))) (mSeq (mIf (mBool (mOp2 opNe (mLenS (mIxA (mBor 0) (mC (.int 3)))) (mLenS (mIxA (mBor 1) (mC (.int 1)))))) (mRaise "Unlike") mSkip) (mSeq (mAsg 2 (mLenS (mIxA (mBor 0) (mC (.int 2))))) (mSeq (mAsg 3 (mB opTuple (mLooks [(mComp (mZip (mArgs [(mIxA (mBor 0) (mC (.int 3))), (mIxA (mBor 1) (mC (.int 1)))])) (.tup [(.name 4), (.name 5)]) [4, 5] (fun _ s => .ok true s) (mOp2 opAdd (mTup (mArgs [(mC (.str "bound")), (mVar 4)])) (mBor 5)))]))) (mSeq (mAsg 6 (mComp (mRange1 (mArgs [(mLenS (mBor 3))])) (.name 7) [7] (fun _ s => .ok true s) (mTup (mArgs [(mC (.str "of")), (mOp2 opAdd (mBor 2) (mBor 7))])))) (mSeq (mAsg 8 (mOp2 opAdd (mBor 2) (mLenS (mBor 3)))) (mSeq (mAsg 9 (mOp2 opAdd (mOp2 opAdd (mIxA (mBor 0) (mC (.int 2))) (mBor 3)) (mB opTuple (mLooks [(mComp (mSeqI (mIxA (mBor 1) (mC (.int 2)))) (.name 10) [10] (fun _ s => .ok true s) (mAuto (mCall 13 (mArgs [(mVar 10), (mVar 6), (mVar 8)]))))])))) (mSeq (mAsg 11 (mB opTuple (mLooks [(mComp (mSeqI (mIxA (mBor 1) (mC (.int 3)))) (.name 4) [4] (fun _ s => .ok true s) (mAuto (mCall 12 (mArgs [(mVar 4), (mVar 6), (mVar 8)]))))]))) (mRet (mAuto (mCall 14 (mArgs [(mTup (mArgs [(mIxA (mBor 0) (mC (.int 0))), (mIxA (mBor 0) (mC (.int 1))), (mVar 9), (mVar 11)]))]))))))))))))
theorem e_fed : f_fed.d.m (tbOf fns cs) bf bv dv = m_fed := by kernel_rfl
def m_beside : M Fl := (mSeq (mDrop (mAuto (mCall 15 (mArgs [(mVar 0), (mVar 1)])))) (mSeq (mIf (mBool (mOp2 opGt (mOp2 opAdd (mLenS (mIxA (mBor 0) (mC (.int 1)))) (mLenS (mIxA (mBor 1) (mC (.int 1))))) (mC (.int 2)))) (mRaise1 "TooMany" (mArgs [(mC (.int 2))])) mSkip) (mSeq (mIf (mBool (mOp2 opGt (mOp2 opAdd (mLenS (mIxA (mBor 0) (mC (.int 3)))) (mLenS (mIxA (mBor 1) (mC (.int 3))))) (mC (.int 2)))) (mRaise1 "TooMany" (mArgs [(mC (.int 2))])) mSkip) (mSeq (mAsg 2 (mLenS (mIxA (mBor 0) (mC (.int 2))))) (mSeq (mAsg 3 (mComp (mRange1 (mArgs [(mLenS (mIxA (mBor 1) (mC (.int 1))))])) (.name 4) [4] (fun _ s => .ok true s) (mTup (mArgs [(mC (.str "in")), (mOp2 opAdd (mLenS (mIxA (mBor 0) (mC (.int 1)))) (mBor 4))])))) (mSeq (mAsg 5 (mOp2 opAdd (mIxA (mBor 0) (mC (.int 2))) (mB opTuple (mLooks [(mComp (mSeqI (mIxA (mBor 1) (mC (.int 2)))) (.name 6) [6] (fun _ s => .ok true s) (mAuto (mCall 13 (mArgs [(mVar 6), (mVar 3), (mVar 2)]))))])))) (mSeq (mAsg 7 (mOp2 opAdd (mIxA (mBor 0) (mC (.int 3))) (mB opTuple (mLooks [(mComp (mSeqI (mIxA (mBor 1) (mC (.int 3)))) (.name 8) [8] (fun _ s => .ok true s) (mAuto (mCall 12 (mArgs [(mVar 8), (mVar 3), (mVar 2)]))))])))) (mRet (mAuto (mCall 14 (mArgs [(mTup (mArgs [(mIxA (mBor 0) (mC (.int 0))), (mOp2 opAdd (mIxA (mBor 0) (mC (.int 1))) (mIxA (mBor 1) (mC (.int 1)))), (mVar 5), (mVar 7)]))])))))))))))
theorem e_beside : f_beside.d.m (tbOf fns cs) bf bv dv = m_beside := by kernel_rfl
def m_closed : M Fl := (mSeq (mDrop (mAuto (mCall 10 (mArgs [(mVar 0)])))) (mSeq (mIf (mBool (mOp2 opEq (mIxA (mBor 0) (mC (.int 1))) (mTup (mArgs [])))) (mRaise "Unlike") mSkip) (mSeq (mAsgT (.tup [(.name 2), (.name 3)]) (mIxA (mIxA (mBor 0) (mC (.int 1))) (mOp1 opNeg (mC (.int 1))))) (mSeq (mIf (mNot (mBool (mAuto (mCall 1 (mArgs [(mVar 1), (mVar 2), (mVar 3)]))))) (mRaise "NoFirst") mSkip) (mSeq (mAsg 4 (mSl (mIxA (mBor 0) (mC (.int 1))) none (some (mOp1 opNeg (mC (.int 1)))))) (mSeq (mAsg 5 (mOp2 opAdd (mComp (mRange1 (mArgs [(mLenS (mBor 4))])) (.name 6) [6] (fun _ s => .ok true s) (mTup (mArgs [(mC (.str "in")), (mVar 6)]))) (mLst (mArgs [(mTup (mArgs [(mC (.str "of")), (mC (.int 0))]))])))) (mSeq (mAsg 7 (mTup (mArgs [(mC (.str "hold")), (mTup (mArgs [(mC (.str "of")), (mOp2 opAdd (mC (.int 1)) (mLenS (mIxA (mBor 0) (mC (.int 2)))))])), (mVar 1)]))) (mSeq (mAsg 8 (mTup (mArgs [(mC (.str "bound")), (mAuto (mCall 12 (mArgs [(mIxA (mIxA (mBor 0) (mC (.int 3))) (mOp1 opNeg (mC (.int 1)))), (mVar 5), (mC (.int 1))]))), (mVar 2), (mVar 3)]))) (mSeq (mAsg 9 (mOp2 opAdd (mOp2 opAdd (mTup (mArgs [(mVar 7)])) (mB opTuple (mLooks [(mComp (mSeqI (mIxA (mBor 0) (mC (.int 2)))) (.name 10) [10] (fun _ s => .ok true s) (mAuto (mCall 13 (mArgs [(mVar 10), (mVar 5), (mC (.int 1))]))))]))) (mTup (mArgs [(mVar 8)])))) (mRet (mAuto (mCall 14 (mArgs [(mTup (mArgs [(mIxA (mBor 0) (mC (.int 0))), (mVar 4), (mVar 9), (mB opTuple (mLooks [(mComp (mSeqI (mIxA (mBor 0) (mC (.int 3)))) (.name 11) [11] (fun _ s => .ok true s) (mAuto (mCall 12 (mArgs [(mVar 11), (mVar 5), (mC (.int 1))]))))]))]))])))))))))))))
theorem e_closed : f_closed.d.m (tbOf fns cs) bf bv dv = m_closed := by kernel_rfl
def m__law_well : M Fl := (mSeq (mIf (mBool (mOp2 opGe (mBor 0) (mOp2 opPow (mC (.int 10)) (mC (.int 18))))) (mRet (mLst (mArgs [(mOp2 opSub (mBor 0) (mOp2 opPow (mC (.int 10)) (mC (.int 18)))), (mOp2 opMod (mBor 0) (mC (.int 2305843009213693951))), (mVar 1)]))) mSkip) (mRet (mLst (mArgs [(mC (.int 0)), (mOp2 opMod (mBor 0) (mC (.int 2305843009213693951))), (mVar 1)]))))
theorem e__law_well : f__law_well.d.m (tbOf fns cs) bf bv dv = m__law_well := by kernel_rfl
def m__law_take : M Fl := (mSeq (mIf (mBool (mOp2 opGt (mIxA (mBor 0) (mC (.int 0))) (mC (.int 0)))) (mSeq (mAsg 2 (mOp2 opMod (mIxA (mBor 0) (mC (.int 0))) (mBor 1))) (mSeq (mBagPut (mBor 0) (mC (.int 0)) (mOp2 opDiv (mIxA (mBor 0) (mC (.int 0))) (mBor 1))) (mRetV 2))) mSkip) (mSeq (mBagPut (mBor 0) (mC (.int 2)) (mOp2 opAdd (mIxA (mBor 0) (mC (.int 2))) (mC (.int 1)))) (mSeq (mAsg 3 (mC (.int 2305843009213693951))) (mSeq (mAsg 4 (mOp2 opMod (mOp2 opAdd (mIxA (mBor 0) (mC (.int 1))) (mOp2 opMul (mC (.int 1000003)) (mIxA (mBor 0) (mC (.int 2))))) (mBor 3))) (mSeq (mAsg 4 (mOp2 opMod (mOp2 opAdd (mOp2 opAdd (mOp2 opMul (mBor 4) (mBor 4)) (mOp2 opMul (mC (.int 7919)) (mOp2 opPow (mIxA (mBor 0) (mC (.int 2))) (mC (.int 2))))) (mC (.int 5))) (mBor 3))) (mRet (mOp2 opMod (mOp2 opDiv (mOp2 opMod (mOp2 opPow (mBor 4) (mC (.int 3))) (mBor 3)) (mC (.int 13))) (mBor 1))))))))
theorem e__law_take : f__law_take.d.m (tbOf fns cs) bf bv dv = m__law_take := by kernel_rfl
def m__law_bags : M Fl := (mRet (mComp (mEnum (mArgs [(mOp2 opAdd (mSl (mBor 0) none (some (mBor 1))) (mLst (mArgs [(mC (.int 0))])))])) (.tup [(.name 2), (.name 3)]) [2, 3] (fun _ s => .ok true s) (mBag (mCall 19 (mArgs [(mVar 3), (mOp2 opMul (mC (.int 977)) (mBor 2))])))))
theorem e__law_bags : f__law_bags.d.m (tbOf fns cs) bf bv dv = m__law_bags := by kernel_rfl
def m__law_blocks : M Fl := (mRet (mOp2 opAdd (mOp2 opMul (mTup (mArgs [(mTup (mArgs [(mC (.str "hold")), (mTup (mArgs [(mC (.str "is")), (mC (.int 0))])), (mC (.int 0))]))])) (mBor 1)) (mOp2 opMul (mTup (mArgs [(mTup (mArgs [(mC (.str "share")), (mTup (mArgs [(mC (.str "is")), (mC (.int 0))])), (mC (.int 2))]))])) (mOp2 opSub (mBor 0) (mBor 1)))))
theorem e__law_blocks : f__law_blocks.d.m (tbOf fns cs) bf bv dv = m__law_blocks := by kernel_rfl
def m__law_sizes_right : M Fl := (mSeq (mAsg 2 (mLst (mArgs [(mTup (mArgs [(mC (.int 11)), (mC (.int 2)), (mC (.int 12)), (mC (.int 2)), (mC .non)])), (mTup (mArgs [(mC (.int 11)), (mC (.int 2)), (mC (.int 13)), (mC (.int 2)), (mC (.int 24))])), (mTup (mArgs [(mC (.int 11)), (mC (.int 2)), (mC (.int 12)), (mC (.int 3)), (mC (.int 4))])), (mTup (mArgs [(mC (.int 20)), (mC (.int 4)), (mC (.int 20)), (mC (.int 4)), (mC (.int 24))])), (mTup (mArgs [(mC (.int 12)), (mC (.int 1)), (mC (.int 11)), (mC (.int 3)), (mC .non)]))]))) (mSeq (mFor (mSeqI (mVar 2)) (.tup [(.name 3), (.name 4), (.name 5), (.name 6), (.name 7)]) (mSeq (mAsg 8 (mTup (mArgs [(mVar 0), (mVar 1), (mAuto (mCall 24 (mArgs [(mVar 3), (mVar 4)]))), (mTup (mArgs [(mTup (mArgs [(mC (.str "in")), (mC (.int 0))]))]))]))) (mSeq (mAsg 9 (mTup (mArgs [(mVar 0), (mVar 1), (mAuto (mCall 24 (mArgs [(mVar 5), (mVar 6)]))), (mTup (mArgs [(mTup (mArgs [(mC (.str "in")), (mC (.int 0))]))]))]))) (mSeq (mAsg 10 (mTup (mArgs [(mC (.str "TooMany")), (mVar 7)]))) (mSeq (mAsg 11 (mSh [8, 9] (mTried (mAuto (mCall 16 (mArgs [(mVar 8), (mVar 9)])))))) (mSeq (mIf (mAnd (mBool (mOp2 opIsNot (mBor 7) (mC .non))) (mBool (mOp2 opNe (mBor 11) (mBor 10)))) (mRet (mC (.bl false))) mSkip) (mSeq (mIf (mAnd (mBool (mOp2 opIs (mBor 7) (mC .non))) (mOr (mBool (mOp2 opNe (mIxA (mBor 11) (mC (.int 0))) (mC (.str "told")))) (mBool (mOp2 opIsNot (mAuto (mCall 9 (mArgs [(mIxA (mBor 11) (mC (.int 1)))]))) (mC (.bl true)))))) (mRet (mC (.bl false))) mSkip) (mIf (mAnd (mBool (mOp2 opLt (mOp2 opAdd (mBor 3) (mBor 5)) (mC (.int 25)))) (mAnd (mBool (mOp2 opLt (mOp2 opAdd (mBor 4) (mBor 6)) (mC (.int 5)))) (mBool (mOp2 opNe (mLenS (mIxA (mAuto (mCall 17 (mArgs [(mVar 8), (mVar 9)]))) (mC (.int 2)))) (mOp2 opAdd (mBor 3) (mBor 5)))))) (mRet (mC (.bl false))) mSkip)))))))) (mSeq (mFor (mSeqI (mLst (mArgs [(mTup (mArgs [(mC (.int 22)), (mC (.int 3)), (mTup (mArgs [(mC (.str "told"))]))])), (mTup (mArgs [(mC (.int 23)), (mC (.int 3)), (mTup (mArgs [(mC (.str "TooMany")), (mC (.int 24))]))])), (mTup (mArgs [(mC (.int 22)), (mC (.int 4)), (mTup (mArgs [(mC (.str "TooMany")), (mC (.int 4))]))]))]))) (.tup [(.name 3), (.name 4), (.name 10)]) (mSeq (mAsg 11 (mSh [0, 4, 3, 1] (mTried (mAuto (mCall 18 (mArgs [(mTup (mArgs [(mVar 0), (mVar 1), (mAuto (mCall 24 (mArgs [(mVar 3), (mVar 4)]))), (mTup (mArgs [(mTup (mArgs [(mC (.str "in")), (mC (.int 0))]))]))])), (mC (.int 1))])))))) (mIf (mBool (mOp2 opNe (mSl (mBor 11) none (some (mLenS (mBor 10)))) (mBor 10))) (mRet (mC (.bl false))) mSkip))) (mRet (mC (.bl true))))))
theorem e__law_sizes_right : f__law_sizes_right.d.m (tbOf fns cs) bf bv dv = m__law_sizes_right := by kernel_rfl
def m_law : M Fl := (mSeq (mAsg 1 (mIxA (mAuto (mCall 21 (mArgs [(mVar 0), (mC (.int 1))]))) (mC (.int 0)))) (mSeq (mAsg 2 (mOp2 opAdd (mC (.int 1)) (mAuto (mCall 20 (mArgs [(mVar 1), (mC (.int 8))]))))) (mSeq (mAsg 3 (mTup (mArgs [(mTup (mArgs [(mC (.int 0)), (mC (.int 1))]))]))) (mSeq (mPar [4, 5] (mRs [(mTup (mArgs [(mVar 2), (mVar 3), (mAuto (mCall 24 (mArgs [(mC (.int 3)), (mC (.int 1))]))), (mTup (mArgs [(mTup (mArgs [(mC (.str "in")), (mC (.int 0))]))]))])), (mTup (mArgs [(mOp2 opAdd (mBor 2) (mC (.int 1))), (mVar 3), (mTup (mArgs [])), (mTup (mArgs [(mTup (mArgs [(mC (.str "in")), (mC (.int 0))]))]))]))])) (mSeq (mAsg 6 (mTup (mArgs [(mVar 2), (mVar 3), (mTup (mArgs [])), (mTup (mArgs [(mTup (mArgs [(mC (.str "in")), (mC (.int 0))])), (mTup (mArgs [(mC (.str "is")), (mC (.int 0))]))]))]))) (mSeq (mAsg 7 (mTup (mArgs [(mVar 2), (mOp2 opMul (mBor 3) (mC (.int 2))), (mTup (mArgs [])), (mTup (mArgs [(mTup (mArgs [(mC (.str "in")), (mC (.int 1))]))]))]))) (mSeq (mAsg 8 (mTup (mArgs [(mVar 2), (mTup (mArgs [])), (mTup (mArgs [])), (mTup (mArgs [(mTup (mArgs [(mC (.str "is")), (mC (.int 0))]))]))]))) (mSeq (mFor (mSeqI (mTup (mArgs [(mVar 7), (mVar 8)]))) (.name 9) (mIf (mBool (mOp2 opNe (mSh [4, 9] (mTried (mAuto (mCall 16 (mArgs [(mVar 4), (mVar 9)]))))) (mTup (mArgs [(mC (.str "Unlike"))])))) (mRet (mC (.bl false))) mSkip)) (mSeq (mIf (mBool (mOp2 opNe (mSh [4, 6] (mTried (mAuto (mCall 16 (mArgs [(mVar 6), (mVar 4)]))))) (mTup (mArgs [(mC (.str "Unlike"))])))) (mRet (mC (.bl false))) mSkip) (mSeq (mIf (mBool (mOp2 opNe (mSh [8] (mTried (mAuto (mCall 18 (mArgs [(mVar 8), (mC (.int 0))]))))) (mTup (mArgs [(mC (.str "Unlike"))])))) (mRet (mC (.bl false))) mSkip) (mSeq (mIf (mBool (mOp2 opNe (mSh [4, 5] (mTried (mAuto (mCall 16 (mArgs [(mVar 4), (mVar 5)]))))) (mTup (mArgs [(mC (.str "Unlike"))])))) (mRet (mC (.bl false))) mSkip) (mSeq (mIf (mBool (mOp2 opNe (mSh [4, 5] (mTried (mAuto (mCall 17 (mArgs [(mVar 5), (mVar 4)]))))) (mTup (mArgs [(mC (.str "Unlike"))])))) (mRet (mC (.bl false))) mSkip) (mSeq (mIf (mBool (mOp2 opNe (mSh [7, 4] (mTried (mAuto (mCall 17 (mArgs [(mVar 7), (mVar 4)]))))) (mTup (mArgs [(mC (.str "TooMany")), (mC (.int 2))])))) (mRet (mC (.bl false))) mSkip) (mSeq (mIf (mBool (mOp2 opNe (mSh [7, 5] (mTried (mAuto (mCall 17 (mArgs [(mVar 7), (mVar 5)]))))) (mTup (mArgs [(mC (.str "Unlike"))])))) (mRet (mC (.bl false))) mSkip) (mSeq (mIf (mBool (mOp2 opNe (mSh [4, 6] (mTried (mAuto (mCall 17 (mArgs [(mVar 4), (mVar 6)]))))) (mTup (mArgs [(mC (.str "TooMany")), (mC (.int 2))])))) (mRet (mC (.bl false))) mSkip) (mSeq (mFor (mSeqI (mLst (mArgs [(mOp1 opNeg (mC (.int 1))), (mC (.int 2)), (mC (.bl true)), (mC .non), (mC (.str "0")), (mTup (mArgs [(mC (.int 0))]))]))) (.name 10) (mIf (mBool (mOp2 opNe (mSh [10, 4] (mTried (mAuto (mCall 18 (mArgs [(mVar 4), (mVar 10)]))))) (mTup (mArgs [(mC (.str "NoFirst"))])))) (mRet (mC (.bl false))) mSkip)) (mRet (mAuto (mCall 25 (mArgs [(mVar 2), (mVar 3)]))))))))))))))))))))
theorem e_law : f_law.d.m (tbOf fns cs) bf bv dv = m_law := by kernel_rfl
end KK
end

section
set_option Elab.async false
set_option linter.all false
set_option maxRecDepth 100000
set_option autoImplicit false
/-! PK: the meanings, stepped through by rewriting. -/
namespace DL
open PySem
section
variable {Φ : PhiT} {s : Sta} {a b c m : M R} {x y z : D} {i j k : Nat} {r : R} {α : Type}
def kO (o : Option R) (s : Sta) : Out R := ofO o (fun _ _ _ => .no) s
theorem kO1 : kO (some r) s = .ok r s := id rfl
theorem kO0 : kO none s = .no := id rfl
def kOpd (o : Out R) : Out D := o.bind fun r s' => .ok r.d s'
theorem e_opd : mOpd m Φ s = kOpd (m Φ s) := id rfl
theorem k_opd : kOpd (.ok r s) = .ok r.d s := id rfl
theorem k_opd0 : kOpd .no = .no := id rfl
def kFrz (o : Out R) : Out D := o.bind fun r s' => match r with
  | .val d => .ok d s'
  | .own c => .ok c.d s'
  | .bor _ => .no
theorem e_frz : mFrz m Φ s = kFrz (m Φ s) := id rfl
theorem k_frz : kFrz (.ok (.val x) s) = .ok x s := id rfl
theorem k_frzo {l : Cont} : kFrz (.ok (.own l) s) = .ok l.d s := id rfl
theorem k_frz0 : kFrz .no = .no := id rfl
theorem e_c : mC x Φ s = .ok (.val x) s := id rfl
def kVar (i : Nat) (s : Sta) (o : Option (Option Slot)) : Out R := match o with
  | some (some (.val d)) => .ok (.val d) s
  | some (some (.own c)) => .ok (.val c.d) { s with ρ := s.ρ.set i (some (.val c.d)) }
  | _ => .no
theorem e_var : mVar i Φ s = kVar i s s.ρ[i]? := id rfl
theorem k_var : kVar i s (some (some (.val x))) = .ok (.val x) s := id rfl
theorem k_varo {l : Cont} : kVar i s (some (some (.own l))) = .ok (.val l.d) { s with ρ := s.ρ.set i (some (.val l.d)) } := id rfl
def kBor (s : Sta) (o : Option (Option Slot)) : Out R := match o with
  | some (some (.val d)) => .ok (.val d) s
  | some (some (.own c)) => .ok (.bor c.d) s
  | _ => .no
theorem e_bor : mBor i Φ s = kBor s s.ρ[i]? := id rfl
theorem k_bor : kBor s (some (some (.val x))) = .ok (.val x) s := id rfl
theorem k_boro {l : Cont} : kBor s (some (some (.own l))) = .ok (.bor l.d) s := id rfl
def kArgs (l : List (M R)) (Φ : PhiT) (o : Out D) : Out (List D) := o.bind fun d s1 => (mArgs l Φ s1).bind fun ds s2 => .ok (d :: ds) s2
def kArgs2 (d : D) (o : Out (List D)) : Out (List D) := o.bind fun ds s2 => .ok (d :: ds) s2
theorem e_args0 : mArgs [] Φ s = .ok [] s := id rfl
theorem e_args {l : List (M R)} : mArgs (m :: l) Φ s = kArgs l Φ (mFrz m Φ s) := id rfl
theorem k_args {l : List (M R)} : kArgs l Φ (.ok x s) = kArgs2 x (mArgs l Φ s) := id rfl
theorem k_args2 {ds : List D} : kArgs2 x (.ok ds s) = .ok (x :: ds) s := id rfl
def kLooks (l : List (M R)) (Φ : PhiT) (o : Out D) : Out (List D) := o.bind fun d s1 => (mLooks l Φ s1).bind fun ds s2 => .ok (d :: ds) s2
theorem e_looks0 : mLooks [] Φ s = .ok [] s := id rfl
theorem e_looks {l : List (M R)} : mLooks (m :: l) Φ s = kLooks l Φ (mOpd m Φ s) := id rfl
theorem k_looks {l : List (M R)} : kLooks l Φ (.ok x s) = kArgs2 x (mLooks l Φ s) := id rfl
def kRs (l : List (M R)) (Φ : PhiT) (o : Out R) : Out (List R) := o.bind fun x s1 => (mRs l Φ s1).bind fun xs s2 => .ok (x :: xs) s2
def kRs2 (r : R) (o : Out (List R)) : Out (List R) := o.bind fun xs s2 => .ok (r :: xs) s2
theorem e_rs0 : mRs [] Φ s = .ok [] s := id rfl
theorem e_rs {l : List (M R)} : mRs (m :: l) Φ s = kRs l Φ (m Φ s) := id rfl
theorem k_rs {l : List (M R)} : kRs l Φ (.ok r s) = kRs2 r (mRs l Φ s) := id rfl
theorem k_rs2 {xs : List R} : kRs2 r (.ok xs s) = .ok (r :: xs) s := id rfl
def kTup (o : Out (List D)) : Out R := o.bind fun ds s1 => if ds.length ≤ lim then .ok (.val (.tup ds)) s1 else .no
def kLst (o : Out (List D)) : Out R := o.bind fun ds s1 => if ds.length ≤ lim then .ok (.own (.lst ds)) s1 else .no
variable {ml : M (List D)} {ds : List D}
theorem e_tup : mTup ml Φ s = kTup (ml Φ s) := id rfl
theorem k_tup (h : ds.length ≤ lim) : kTup (.ok ds s) = .ok (.val (.tup ds)) s := if_pos h
theorem e_lst : mLst ml Φ s = kLst (ml Φ s) := id rfl
theorem k_lst (h : ds.length ≤ lim) : kLst (.ok ds s) = .ok (.own (.lst ds)) s := if_pos h
theorem k_tup_0 : kTup (.ok [] s) = .ok (.val (.tup [])) s := k_tup (show 0 ≤ lim by decide)
theorem k_lst_0 : kLst (.ok [] s) = .ok (.own (.lst [])) s := k_lst (show 0 ≤ lim by decide)
theorem k_tup_1 {y0 : D} : kTup (.ok [y0] s) = .ok (.val (.tup [y0])) s := k_tup (show 1 ≤ lim by decide)
theorem k_lst_1 {y0 : D} : kLst (.ok [y0] s) = .ok (.own (.lst [y0])) s := k_lst (show 1 ≤ lim by decide)
theorem k_tup_2 {y0 y1 : D} : kTup (.ok [y0, y1] s) = .ok (.val (.tup [y0, y1])) s := k_tup (show 2 ≤ lim by decide)
theorem k_lst_2 {y0 y1 : D} : kLst (.ok [y0, y1] s) = .ok (.own (.lst [y0, y1])) s := k_lst (show 2 ≤ lim by decide)
theorem k_tup_3 {y0 y1 y2 : D} : kTup (.ok [y0, y1, y2] s) = .ok (.val (.tup [y0, y1, y2])) s := k_tup (show 3 ≤ lim by decide)
theorem k_lst_3 {y0 y1 y2 : D} : kLst (.ok [y0, y1, y2] s) = .ok (.own (.lst [y0, y1, y2])) s := k_lst (show 3 ≤ lim by decide)
theorem k_tup_4 {y0 y1 y2 y3 : D} : kTup (.ok [y0, y1, y2, y3] s) = .ok (.val (.tup [y0, y1, y2, y3])) s := k_tup (show 4 ≤ lim by decide)
theorem k_lst_4 {y0 y1 y2 y3 : D} : kLst (.ok [y0, y1, y2, y3] s) = .ok (.own (.lst [y0, y1, y2, y3])) s := k_lst (show 4 ≤ lim by decide)
theorem k_tup_5 {y0 y1 y2 y3 y4 : D} : kTup (.ok [y0, y1, y2, y3, y4] s) = .ok (.val (.tup [y0, y1, y2, y3, y4])) s := k_tup (show 5 ≤ lim by decide)
theorem k_lst_5 {y0 y1 y2 y3 y4 : D} : kLst (.ok [y0, y1, y2, y3, y4] s) = .ok (.own (.lst [y0, y1, y2, y3, y4])) s := k_lst (show 5 ≤ lim by decide)
theorem k_tup_6 {y0 y1 y2 y3 y4 y5 : D} : kTup (.ok [y0, y1, y2, y3, y4, y5] s) = .ok (.val (.tup [y0, y1, y2, y3, y4, y5])) s := k_tup (show 6 ≤ lim by decide)
theorem k_lst_6 {y0 y1 y2 y3 y4 y5 : D} : kLst (.ok [y0, y1, y2, y3, y4, y5] s) = .ok (.own (.lst [y0, y1, y2, y3, y4, y5])) s := k_lst (show 6 ≤ lim by decide)
def kCall (f : Nat) (Φ : PhiT) (o : Out (List D)) : Out R := o.bind fun ds s1 => match Φ f ds s1.S with
  | .ok r S' => .ok r { s1 with S := S' }
  | .ex x S' => .ex x { s1 with S := S' }
  | .no => .no
def kCall2 (ρ : List (Option Slot)) (o : FOut) : Out R := match o with
  | .ok r S' => .ok r ⟨ρ, S'⟩
  | .ex x S' => .ex x ⟨ρ, S'⟩
  | .no => .no
theorem e_call {f : Nat} : mCall f ml Φ s = kCall f Φ (ml Φ s) := id rfl
theorem k_call {f : Nat} : kCall f Φ (.ok ds s) = kCall2 s.ρ (Φ f ds s.S) := id rfl
theorem k_call2 {ρ : List (Option Slot)} {S : Store} : kCall2 ρ (.ok r S) = .ok r ⟨ρ, S⟩ := id rfl
theorem k_call20 {ρ : List (Option Slot)} : kCall2 ρ .no = .no := id rfl
def kAuto (ρ : List (Option Slot)) (o : Out R) : Out R := o.bind fun r s1 => if flat r = true then .ok r { s1 with ρ := ρ } else .ok r s1
theorem e_auto : mAuto m Φ s = kAuto s.ρ (m Φ s) := id rfl
theorem k_autob {ρ : List (Option Slot)} {t : Bool} : kAuto ρ (.ok (.val (.bl t)) s) = .ok (.val (.bl t)) ⟨ρ, s.S⟩ := id rfl
theorem k_autoi {ρ : List (Option Slot)} {t : Int} : kAuto ρ (.ok (.val (.int t)) s) = .ok (.val (.int t)) ⟨ρ, s.S⟩ := id rfl
theorem k_auton {ρ : List (Option Slot)} : kAuto ρ (.ok (.val .non) s) = .ok (.val .non) ⟨ρ, s.S⟩ := id rfl
theorem k_autot {ρ : List (Option Slot)} : kAuto ρ (.ok (.val (.tup ds)) s) = .ok (.val (.tup ds)) s := id rfl
theorem k_autoo {ρ : List (Option Slot)} {l : Cont} : kAuto ρ (.ok (.own l) s) = .ok (.own l) s := id rfl
theorem k_auto0 {ρ : List (Option Slot)} : kAuto ρ .no = .no := id rfl
def kBool (o : Out R) : Out Bool := o.bind fun r s' => match r with
  | .val (.bl b) => .ok b s'
  | _ => .no
theorem k_bool {t : Bool} : kBool (.ok (.val (.bl t)) s) = .ok t s := id rfl
theorem e_bool : mBool m Φ s = kBool (m Φ s) := by
  show (m Φ s).bind _ = (m Φ s).bind _
  rfl
def kNot (o : Out Bool) : Out Bool := o.bind fun b s1 => .ok (!b) s1
variable {p q : M Bool} {t : Bool}
theorem e_not : mNot p Φ s = kNot (p Φ s) := id rfl
theorem k_not : kNot (.ok t s) = .ok (!t) s := id rfl
def kAnd (q : M Bool) (Φ : PhiT) (o : Out Bool) : Out Bool := o.bind fun x s1 => if x = true then q Φ s1 else .ok false s1
theorem e_and : mAnd p q Φ s = kAnd q Φ (p Φ s) := id rfl
theorem k_andt : kAnd q Φ (.ok true s) = q Φ s := id rfl
theorem k_andf : kAnd q Φ (.ok false s) = .ok false s := id rfl
def kOr (q : M Bool) (Φ : PhiT) (o : Out Bool) : Out Bool := o.bind fun x s1 => if x = true then .ok true s1 else q Φ s1
theorem e_or : mOr p q Φ s = kOr q Φ (p Φ s) := id rfl
theorem k_ort : kOr q Φ (.ok true s) = .ok true s := id rfl
theorem k_orf : kOr q Φ (.ok false s) = q Φ s := id rfl
def kAndV (b : M R) (Φ : PhiT) (o : Out Bool) : Out R := o.bind fun x s1 => if x = true then b Φ s1 else .ok (.val (.bl false)) s1
theorem e_andV : mAndV a b Φ s = kAndV b Φ (mBool a Φ s) := id rfl
theorem k_andVt : kAndV b Φ (.ok true s) = b Φ s := id rfl
theorem k_andVf : kAndV b Φ (.ok false s) = .ok (.val (.bl false)) s := id rfl
def kNotV (o : Out Bool) : Out R := o.bind fun x s1 => .ok (.val (.bl (!x))) s1
theorem e_notV : mNotV a Φ s = kNotV (mBool a Φ s) := id rfl
theorem k_notV : kNotV (.ok t s) = .ok (.val (.bl (!t))) s := id rfl
def kIfE (a b : M R) (Φ : PhiT) (o : Out Bool) : Out R := o.bind fun x s1 => if x = true then a Φ s1 else b Φ s1
theorem e_ifE : mIfE p a b Φ s = kIfE a b Φ (p Φ s) := id rfl
theorem k_ifEt : kIfE a b Φ (.ok true s) = a Φ s := id rfl
theorem k_ifEf : kIfE a b Φ (.ok false s) = b Φ s := id rfl
def kOp1 (op : D → Option R) (o : Out D) : Out R := o.bind fun x s1 => kO (op x) s1
theorem e_op1 {op : D → Option R} : mOp1 op a Φ s = kOp1 op (mOpd a Φ s) := id rfl
theorem k_op1 {op : D → Option R} : kOp1 op (.ok x s) = kO (op x) s := id rfl
def kOp2 (op : D → D → Option R) (b : M R) (Φ : PhiT) (o : Out D) : Out R := o.bind fun x s1 => (mOpd b Φ s1).bind fun y s2 => kO (op x y) s2
def kOp2b (op : D → D → Option R) (x : D) (o : Out D) : Out R := o.bind fun y s2 => kO (op x y) s2
theorem e_op2 {op : D → D → Option R} : mOp2 op a b Φ s = kOp2 op b Φ (mOpd a Φ s) := id rfl
theorem k_op2 {op : D → D → Option R} : kOp2 op b Φ (.ok x s) = kOp2b op x (mOpd b Φ s) := id rfl
theorem k_op2b {op : D → D → Option R} : kOp2b op x (.ok y s) = kO (op x y) s := id rfl
def kIx (b : M R) (Φ : PhiT) (o : Out D) : Out R := o.bind fun x s1 => (mOpd b Φ s1).bind fun y s2 => kO (opIxA s2.S x y) s2
def kIxb (x : D) (o : Out D) : Out R := o.bind fun y s2 => kO (opIxA s2.S x y) s2
theorem e_ix : mIxA a b Φ s = kIx b Φ (mOpd a Φ s) := id rfl
theorem k_ix : kIx b Φ (.ok x s) = kIxb x (mOpd b Φ s) := id rfl
theorem k_ixb : kIxb x (.ok y s) = kO (opIxA s.S x y) s := id rfl
def kLen (o : Out D) : Out R := o.bind fun x s1 => kO (opLenS s1.S x) s1
theorem e_len : mLenS a Φ s = kLen (mOpd a Φ s) := id rfl
theorem k_len : kLen (.ok x s) = kO (opLenS s.S x) s := id rfl
def kB (op : List D → Option R) (o : Out (List D)) : Out R := o.bind fun ds s1 => kO (op ds) s1
theorem e_b {op : List D → Option R} : mB op ml Φ s = kB op (ml Φ s) := id rfl
theorem k_b {op : List D → Option R} : kB op (.ok ds s) = kO (op ds) s := id rfl
def kChain (f g : Int → Int → Bool) (b c : M R) (Φ : PhiT) (o : Out D) : Out R := o.bind fun x s1 => (mOpd b Φ s1).bind fun y s2 => match x, y with
  | .int i, .int j => if f i j = true then (mOpd c Φ s2).bind fun z s3 => (match z with
    | .int k => .ok (.val (.bl (g j k))) s3
    | _ => .no) else .ok (.val (.bl false)) s2
  | _, _ => .no
def kChain2 (f g : Int → Int → Bool) (c : M R) (Φ : PhiT) (x : D) (o : Out D) : Out R := o.bind fun y s2 => match x, y with
  | .int i, .int j => if f i j = true then (mOpd c Φ s2).bind fun z s3 => (match z with
    | .int k => .ok (.val (.bl (g j k))) s3
    | _ => .no) else .ok (.val (.bl false)) s2
  | _, _ => .no
def kChain3 (g : Int → Int → Bool) (j : Int) (o : Out D) : Out R := o.bind fun z s3 => (match z with
    | .int k => .ok (.val (.bl (g j k))) s3
    | _ => .no)
theorem e_chain {f g : Int → Int → Bool} : mChain f g a b c Φ s = kChain f g b c Φ (mOpd a Φ s) := id rfl
theorem k_chain {f g : Int → Int → Bool} : kChain f g b c Φ (.ok x s) = kChain2 f g c Φ x (mOpd b Φ s) := id rfl
theorem k_chain2 {f g : Int → Int → Bool} {i j : Int} : kChain2 f g c Φ (.int i) (.ok (.int j) s) = if f i j = true then kChain3 g j (mOpd c Φ s) else .ok (.val (.bl false)) s := id rfl
theorem k_chain3 {g : Int → Int → Bool} {i j : Int} : kChain3 g j (.ok (.int i) s) = .ok (.val (.bl (g j i))) s := id rfl
def kSl (lo hi : Option (M R)) (Φ : PhiT) (o : Out D) : Out R := o.bind fun d s1 => (mPart lo Φ s1).bind fun l s2 => (mPart hi Φ s2).bind fun h s3 => kO (opSl d l h) s3
def kSl2 (hi : Option (M R)) (Φ : PhiT) (d : D) (o : Out (Option Int)) : Out R := o.bind fun l s2 => (mPart hi Φ s2).bind fun h s3 => kO (opSl d l h) s3
def kSl3 (d : D) (l : Option Int) (o : Out (Option Int)) : Out R := o.bind fun h s3 => kO (opSl d l h) s3
def kPart (o : Out D) : Out (Option Int) := o.bind fun d s1 => match d with
    | .int i => .ok (some i) s1
    | _ => .no
theorem e_sl {lo hi : Option (M R)} : mSl a lo hi Φ s = kSl lo hi Φ (mOpd a Φ s) := id rfl
theorem k_sl {lo hi : Option (M R)} : kSl lo hi Φ (.ok x s) = kSl2 hi Φ x (mPart lo Φ s) := id rfl
theorem k_sl2 {hi : Option (M R)} {l : Option Int} : kSl2 hi Φ x (.ok l s) = kSl3 x l (mPart hi Φ s) := id rfl
theorem k_sl3 {l h : Option Int} : kSl3 x l (.ok h s) = kO (opSl x l h) s := id rfl
theorem e_part0 : mPart none Φ s = .ok none s := id rfl
theorem e_part : mPart (some a) Φ s = kPart (mOpd a Φ s) := id rfl
theorem k_part {i : Int} : kPart (.ok (.int i) s) = .ok (some i) s := id rfl
/-! ### statements -/
variable {u v : M Fl}
def kSeq (v : M Fl) (Φ : PhiT) (o : Out Fl) : Out Fl := o.bind fun f s1 => match f with
  | .nx => v Φ s1
  | f => .ok f s1
theorem e_seq : mSeq u v Φ s = kSeq v Φ (u Φ s) := by
  show (u Φ s).bind _ = (u Φ s).bind _
  congr 1
theorem k_seqn : kSeq v Φ (.ok .nx s) = v Φ s := id rfl
theorem k_seqr : kSeq v Φ (.ok (.ret r) s) = .ok (.ret r) s := id rfl
theorem k_seq0 : kSeq v Φ .no = .no := id rfl
theorem e_skip : mSkip Φ s = .ok .nx s := id rfl
theorem e_no : (M.no : M Fl) Φ s = .no := id rfl
def kIf (u v : M Fl) (Φ : PhiT) (o : Out Bool) : Out Fl := o.bind fun x s1 => if x = true then u Φ s1 else v Φ s1
theorem e_if : mIf p u v Φ s = kIf u v Φ (p Φ s) := id rfl
theorem k_ift : kIf u v Φ (.ok true s) = u Φ s := id rfl
theorem k_iff : kIf u v Φ (.ok false s) = v Φ s := id rfl
def kAsg (i : Nat) (o : Out R) : Out Fl := o.bind fun r s1 => match slotOf r with
  | some sl => if i < s1.ρ.length then .ok .nx { s1 with ρ := s1.ρ.set i (some sl) } else .no
  | none => .no
theorem e_asg : mAsg i m Φ s = kAsg i (m Φ s) := id rfl
theorem k_asg (h : i < s.ρ.length) : kAsg i (.ok (.val x) s) = .ok .nx { s with ρ := s.ρ.set i (some (.val x)) } := if_pos h
theorem k_asgo {l : Cont} (h : i < s.ρ.length) : kAsg i (.ok (.own l) s) = .ok .nx { s with ρ := s.ρ.set i (some (.own l)) } := if_pos h
def kRet (o : Out R) : Out Fl := o.bind fun r s1 => match r with
  | .bor _ => .no
  | r => .ok (.ret r) s1
theorem e_ret : mRet m Φ s = kRet (m Φ s) := by
  show (m Φ s).bind _ = (m Φ s).bind _
  congr 1
theorem k_ret : kRet (.ok (.val x) s) = .ok (.ret (.val x)) s := id rfl
theorem k_reto {l : Cont} : kRet (.ok (.own l) s) = .ok (.ret (.own l)) s := id rfl
def kRetV (s : Sta) (o : Option (Option Slot)) : Out Fl := match o with
  | some (some (.val d)) => .ok (.ret (.val d)) s
  | some (some (.own c)) => .ok (.ret (.own c)) s
  | _ => .no
theorem e_retV : mRetV i Φ s = kRetV s s.ρ[i]? := id rfl
theorem k_retV : kRetV s (some (some (.val x))) = .ok (.ret (.val x)) s := id rfl
theorem k_retVo {l : Cont} : kRetV s (some (some (.own l))) = .ok (.ret (.own l)) s := id rfl
def kDrop (o : Out R) : Out Fl := o.bind fun _ s1 => .ok .nx s1
theorem e_drop : mDrop m Φ s = kDrop (m Φ s) := id rfl
theorem k_drop : kDrop (.ok r s) = .ok .nx s := id rfl
def kPar (is : List Nat) (o : Out (List R)) : Out Fl := o.bind fun rs s1 => match parR is rs s1.ρ with
  | some ρ' => .ok .nx { s1 with ρ := ρ' }
  | none => .no
theorem e_par {is : List Nat} {mr : M (List R)} : mPar is mr Φ s = kPar is (mr Φ s) := id rfl
theorem k_par {is : List Nat} {rs : List R} {ρ' : List (Option Slot)} (h : parR is rs s.ρ = some ρ') : kPar is (.ok rs s) = .ok .nx { s with ρ := ρ' } := by
  show (match parR is rs s.ρ with
    | some ρ' => Out.ok Fl.nx { s with ρ := ρ' }
    | none => .no) = _
  rw [h]
def kNew (s : Sta) (o : Option (List (Option Slot))) : Out Fl := match o with
  | some ρ' => .ok .nx { s with ρ := ρ' }
  | none => .no
theorem k_new {ρ' : List (Option Slot)} : kNew s (some ρ') = .ok .nx { s with ρ := ρ' } := id rfl
theorem k_parn {is : List Nat} {rs : List R} : kPar is (.ok rs s) = kNew s (parR is rs s.ρ) := id rfl
def kAsgT (t : Tg) (o : Out D) : Out Fl := o.bind fun d s1 => match bindT t d s1.ρ with
  | some ρ' => .ok .nx { s1 with ρ := ρ' }
  | none => .no
theorem e_asgT {t : Tg} : mAsgT t m Φ s = kAsgT t (mFrz m Φ s) := id rfl
theorem k_asgT {t : Tg} {ρ' : List (Option Slot)} (h : bindT t x s.ρ = some ρ') : kAsgT t (.ok x s) = .ok .nx { s with ρ := ρ' } := by
  show (match bindT t x s.ρ with
    | some ρ' => Out.ok Fl.nx { s with ρ := ρ' }
    | none => .no) = _
  rw [h]
theorem k_asgTn {t : Tg} : kAsgT t (.ok x s) = kNew s (bindT t x s.ρ) := id rfl
def kSeqI (o : Out D) : Out (List D) := o.bind fun d s1 => match seqOf d with
  | some l => .ok l s1
  | none => .no
theorem e_seqI : mSeqI m Φ s = kSeqI (mFrz m Φ s) := id rfl
theorem k_seqIt : kSeqI (.ok (.tup ds) s) = .ok ds s := id rfl
theorem k_seqIl : kSeqI (.ok (.lst ds) s) = .ok ds s := id rfl
def kEnum (o : Out (List D)) : Out (List D) := o.bind fun ds s1 => match ds with
  | [d] => (match seqOf d with
    | some l => .ok (enumFrom 0 l) s1
    | none => .no)
  | _ => .no
theorem e_enum : mEnum ml Φ s = kEnum (ml Φ s) := id rfl
theorem k_enumt : kEnum (.ok [.tup ds] s) = .ok (enumFrom 0 ds) s := id rfl
theorem k_enuml : kEnum (.ok [.lst ds] s) = .ok (enumFrom 0 ds) s := id rfl
def kZip (o : Out (List D)) : Out (List D) := o.bind fun ds s1 => match ds with
  | [d, e] => (match seqOf d, seqOf e with
    | some l, some q => .ok (zipD l q) s1
    | _, _ => .no)
  | _ => .no
variable {es : List D}
theorem e_zip : mZip ml Φ s = kZip (ml Φ s) := id rfl
theorem k_ziptt : kZip (.ok [.tup ds, .tup es] s) = .ok (zipD ds es) s := id rfl
theorem k_ziplt : kZip (.ok [.lst ds, .tup es] s) = .ok (zipD ds es) s := id rfl
theorem k_ziptl : kZip (.ok [.tup ds, .lst es] s) = .ok (zipD ds es) s := id rfl
theorem k_zipll : kZip (.ok [.lst ds, .lst es] s) = .ok (zipD ds es) s := id rfl
def kFor (t : Tg) (v : M Fl) (Φ : PhiT) (o : Out (List D)) : Out Fl := o.bind fun ds s1 => forLoop t v Φ ds s1
theorem e_for {mi : M (List D)} {t : Tg} : mFor mi t v Φ s = kFor t v Φ (mi Φ s) := id rfl
theorem k_for {t : Tg} : kFor t v Φ (.ok ds s) = forLoop t v Φ ds s := id rfl
theorem for_nil {t : Tg} : forLoop t v Φ [] s = .ok .nx s := id rfl
theorem for_step {t : Tg} {ρ' : List (Option Slot)} {s1 : Sta} (h1 : bindT t x s.ρ = some ρ') (h2 : v Φ { s with ρ := ρ' } = .ok .nx s1) : forLoop t v Φ (x :: ds) s = forLoop t v Φ ds s1 := by
  show (match bindT t x s.ρ with
    | none => (.no : Out Fl)
    | some ρ' => (v Φ { s with ρ := ρ' }).bind fun f s1 => match f with
      | .nx => forLoop t v Φ ds s1
      | .ct => forLoop t v Φ ds s1
      | .brk => .ok .nx s1
      | .ret r => .ok (.ret r) s1) = _
  rw [h1]
  show (v Φ { s with ρ := ρ' }).bind _ = _
  rw [h2]
  rfl
theorem for_ret {t : Tg} {ρ' : List (Option Slot)} {s1 : Sta} (h1 : bindT t x s.ρ = some ρ') (h2 : v Φ { s with ρ := ρ' } = .ok (.ret r) s1) : forLoop t v Φ (x :: ds) s = .ok (.ret r) s1 := by
  show (match bindT t x s.ρ with
    | none => (.no : Out Fl)
    | some ρ' => (v Φ { s with ρ := ρ' }).bind fun f s1 => match f with
      | .nx => forLoop t v Φ ds s1
      | .ct => forLoop t v Φ ds s1
      | .brk => .ok .nx s1
      | .ret r => .ok (.ret r) s1) = _
  rw [h1]
  show (v Φ { s with ρ := ρ' }).bind _ = _
  rw [h2]
  rfl
end
end DL
end

section
set_option Elab.async false
set_option linter.all false
set_option maxRecDepth 100000
set_option maxHeartbeats 8000000
namespace KK
open PySem DL
theorem d__law_well : df 19 = some ⟨2, 2, m__law_well⟩ := by show some (⟨2, 2, f__law_well.d.m (tbOf fns cs) bf bv dv⟩ : Fe) = _; rw [e__law_well]
theorem d__law_take : df 20 = some ⟨2, 5, m__law_take⟩ := by show some (⟨2, 5, f__law_take.d.m (tbOf fns cs) bf bv dv⟩ : Fe) = _; rw [e__law_take]
theorem d__law_bags : df 21 = some ⟨2, 4, m__law_bags⟩ := by show some (⟨2, 4, f__law_bags.d.m (tbOf fns cs) bf bv dv⟩ : Fe) = _; rw [e__law_bags]
theorem d__law_blocks : df 24 = some ⟨2, 2, m__law_blocks⟩ := by show some (⟨2, 2, f__law_blocks.d.m (tbOf fns cs) bf bv dv⟩ : Fe) = _; rw [e__law_blocks]
theorem d__law_sizes_right : df 25 = some ⟨2, 12, m__law_sizes_right⟩ := by show some (⟨2, 12, f__law_sizes_right.d.m (tbOf fns cs) bf bv dv⟩ : Fe) = _; rw [e__law_sizes_right]
theorem d_law : df 26 = some ⟨1, 11, m_law⟩ := by show some (⟨1, 11, f_law.d.m (tbOf fns cs) bf bv dv⟩ : Fe) = _; rw [e_law]
theorem phi_eq {df : Nat → Option Fe} {n ix : Nat} {e : Fe} {ds : List D} {S : Store} (h : df ix = some e) (hl : ds.length = e.ar) : Phi df (n + 1) ix ds S = runF e.sz e.m (Phi df n) ds S := by
  show (match df ix with
    | some e => if ds.length = e.ar then runF e.sz e.m (Phi df n) ds S else .no
    | none => .no) = _
  rw [h]
  exact if_pos hl
theorem ixN_nat (n k : Nat) : L2.ixN n (k : Int) = if k < n then some k else none := by
  unfold L2.ixN
  by_cases h : k < n
  · simp [h]
  · simp [h]
theorem at_nat {α : Type} (l : List α) (k : Nat) : L2.atI l (k : Int) = l[k]? := by
  unfold L2.atI
  rw [ixN_nat]
  by_cases h : k < l.length
  · simp [h]
  · simp [h]
theorem at0 {α : Type} (l : List α) : L2.atI l 0 = l[0]? := at_nat l 0
theorem at1 {α : Type} (l : List α) : L2.atI l 1 = l[1]? := at_nat l 1
theorem at2 {α : Type} (l : List α) : L2.atI l 2 = l[2]? := at_nat l 2
theorem lim99 : 199 < lim := by decide
theorem get_lt {α : Type} {l : List α} {j : Nat} {x : α} (h : l[j]? = some x) : j < l.length := by
  rcases Nat.lt_or_ge j l.length with h' | h'
  · exact h'
  · rw [List.getElem?_eq_none h'] at h; cases h
theorem opAdd_l {a b : List D} (h : a.length + b.length ≤ 199) : opAdd (.lst a) (.lst b) = some (.own (.lst (a ++ b))) := if_pos (by have := lim99; omega)
theorem intsOf_map : ∀ l : List Int, intsOf (l.map D.int) = some l
  | [] => rfl
  | d :: r => by
    rw [List.map_cons]
    show (intsOf (r.map D.int)).map (d :: ·) = _
    rw [intsOf_map r]; rfl
theorem bag_new {m : M DL.R} {Φ : PhiT} {s : Sta} {ρ' : List (Option Slot)} {S' : Store} {ns : List Int} (h : m Φ s = .ok (.own (.lst (ns.map D.int))) ⟨ρ', S'⟩) : mBag m Φ s = .ok (.val (.bag S'.length)) ⟨ρ', S' ++ [ns]⟩ := by
  unfold mBag
  rw [h]
  show (match intsOf (ns.map D.int) with
    | some ns => (.ok (.val (.bag S'.length)) ⟨ρ', S' ++ [ns]⟩ : Out DL.R)
    | none => .no) = _
  rw [intsOf_map]
/-- a comprehension whose body draws -/
theorem comp_draw {α β : Type} {t : Tg} {vs : List Nat} {e : M DL.R} {Φ : PhiT} {ρ : List (Option Slot)} (f : α → D) (g : β → D) (Q : β → Prop) (I : Nat → Store → Prop) (K N0 : Nat) :
    ∀ (xs : List α) (acc : List D) (N : Nat) (S : Store), I N S → N + K * xs.length ≤ N0 → (∀ x ∈ xs, ∀ (N' : Nat) (S' : Store), N' + K ≤ N0 → I N' S' → ∃ (ρ1 ρ3 : List (Option Slot)) (y : β) (S2 : Store), bindT t (f x) ρ = some ρ1 ∧ mFrz e Φ ⟨ρ1, S'⟩ = .ok (g y) ⟨ρ3, S2⟩ ∧ wipeR ρ3 vs = ρ ∧ Q y ∧ I (N' + K) S2) → acc.length + xs.length < lim →
      ∃ (ys : List β) (S2 : Store), ys.length = xs.length ∧ (∀ y ∈ ys, Q y) ∧ compLoop t vs (fun _ s => .ok true s) e Φ (xs.map f) acc ⟨ρ, S⟩ = .ok (acc ++ ys.map g) ⟨ρ, S2⟩ ∧ I (N + K * xs.length) S2
  | [], acc, N, S, hI, _, _, _ => ⟨[], S, rfl, (fun _ h => nomatch h), by simp [compLoop], by simpa using hI⟩
  | x :: r, acc, N, S, hI, hN, h, hl => by
    have hN' : N + K * (r.length + 1) ≤ N0 := hN
    rw [Nat.mul_add, Nat.mul_one] at hN'
    obtain ⟨ρ1, ρ3, y, S1, h1, h5, h6, hq, hI1⟩ := h x (List.mem_cons_self ..) N S (by omega) hI
    have hl' : acc.length + r.length + 1 < lim := by simp at hl; omega
    obtain ⟨ys, S2, e1, e2, e3, e4⟩ := comp_draw f g Q I K N0 r (acc ++ [g y]) (N + K) S1 hI1 (by omega) (fun z hz => h z (List.mem_cons_of_mem _ hz)) (by simp; omega)
    refine ⟨y :: ys, S2, by simp [e1], fun z hz => ?_, ?_, ?_⟩
    · rcases List.mem_cons.1 hz with e | e
      · subst e; exact hq
      · exact e2 z e
    · show (match bindT t (f x) ρ with
        | none => (.no : Out (List D))
        | some ρ' => (noEx (mFrz e Φ ⟨ρ', S⟩)).bind fun v s2 => (if acc.length < lim then compLoop t vs (fun _ s => .ok true s) e Φ (r.map f) (acc ++ [v]) { s2 with ρ := wipeR s2.ρ vs } else .no)) = _
      rw [h1]
      show (noEx (mFrz e Φ ⟨ρ1, S⟩)).bind _ = _
      rw [h5]
      show (if acc.length < lim then compLoop t vs (fun _ s => .ok true s) e Φ (r.map f) (acc ++ [g y]) ⟨wipeR ρ3 vs, S1⟩ else .no) = _
      rw [if_pos (by omega), h6, e3]
      simp
    · have e : N + K + K * r.length = N + K * (x :: r).length := by
        show _ = N + K * (r.length + 1)
        rw [Nat.mul_add, Nat.mul_one]; omega
      rw [← e]; exact e4
theorem mComp_draw {α β : Type} {it : M (List D)} {t : Tg} {vs : List Nat} {e : M DL.R} {Φ : PhiT} {ρ ρ1 ρ2 ρ5 : List (Option Slot)} {S S1 : Store} (f : α → D) (g : β → D) (Q : β → Prop) (I : Nat → Store → Prop) (K N0 N : Nat) (xs : List α)
    (hi : it Φ ⟨ρ, S⟩ = .ok (xs.map f) ⟨ρ1, S1⟩) (hw : wipeR ρ1 vs = ρ2) (hb : backR ρ1 ρ2 vs = ρ5) (hI : I N S1) (hN : N + K * xs.length ≤ N0)
    (h : ∀ x ∈ xs, ∀ (N' : Nat) (S' : Store), N' + K ≤ N0 → I N' S' → ∃ (ρ4 ρ3 : List (Option Slot)) (y : β) (S2 : Store), bindT t (f x) ρ2 = some ρ4 ∧ mFrz e Φ ⟨ρ4, S'⟩ = .ok (g y) ⟨ρ3, S2⟩ ∧ wipeR ρ3 vs = ρ2 ∧ Q y ∧ I (N' + K) S2) (hl : xs.length < lim) :
    ∃ (ys : List β) (S2 : Store), ys.length = xs.length ∧ (∀ y ∈ ys, Q y) ∧ mComp it t vs (fun _ s => .ok true s) e Φ ⟨ρ, S⟩ = .ok (.own (.lst (ys.map g))) ⟨ρ5, S2⟩ ∧ I (N + K * xs.length) S2 := by
  subst hw hb
  obtain ⟨ys, S2, e1, e2, e3, e4⟩ := comp_draw f g Q I K N0 xs [] N S1 hI hN h (by simpa using hl)
  refine ⟨ys, S2, e1, e2, ?_, e4⟩
  rw [List.nil_append] at e3
  unfold mComp
  rw [hi]
  show (compLoop t vs (fun _ s => .ok true s) e Φ (xs.map f) [] ⟨wipeR ρ1 vs, S1⟩).bind _ = _
  rw [e3]
  rfl
def PM : Int := 2305843009213693951
/-- the law's bags: a cell's rest, a seed, a count -/
def Inv (m N : Nat) (S : Store) : Prop := m ≤ S.length ∧ ∀ k, k < m → ∃ a b c : Int, S[k]? = some [a, b, c] ∧ 0 ≤ a ∧ 0 ≤ b ∧ b < PM ∧ 0 ≤ c ∧ c ≤ (N : Int)
structure Nxt (m N : Nat) (S S' : Store) : Prop where
  inv : Inv m N S'
  len : S.length ≤ S'.length
  frm : ∀ i, m ≤ i → i < S.length → S'[i]? = S[i]?
theorem Inv.mono {m N N' : Nat} {S : Store} (h : Inv m N S) (hn : N ≤ N') : Inv m N' S := ⟨h.1, fun k hk => by
  obtain ⟨a, b, c, e, h1, h2, h3, h4, h5⟩ := h.2 k hk
  exact ⟨a, b, c, e, h1, h2, h3, h4, by omega⟩⟩
theorem Nxt.trans {m N N' : Nat} {S S1 S2 : Store} (h : Nxt m N S S1) (h' : Nxt m N' S1 S2) : Nxt m N' S S2 :=
  ⟨h'.inv, Nat.le_trans h.len h'.len, fun i hi hl => (h'.frm i hi (Nat.lt_of_lt_of_le hl h.len)).trans (h.frm i hi hl)⟩
theorem Nxt.refl {m N : Nat} {S : Store} (h : Inv m N S) : Nxt m N S S := ⟨h, Nat.le_refl _, fun _ _ _ => rfl⟩
theorem Nxt.mono {m N N' : Nat} {S S' : Store} (h : Nxt m N S S') (hn : N ≤ N') : Nxt m N' S S' := ⟨h.inv.mono hn, h.len, h.frm⟩
theorem bput_eq {x i m : M DL.R} {Φ : PhiT} {s s1 s2 s3 : Sta} {v k : Int} {n j : Nat} {ns : List Int} (h1 : mFrz m Φ s = .ok (.int v) s1) (h2 : mOpd x Φ s1 = .ok (.bag n) s2) (h3 : mOpd i Φ s2 = .ok (.int k) s3) (h4 : s3.S[n]? = some ns) (h5 : L2.ixN ns.length k = some j) :
    mBagPut x i m Φ s = .ok .nx { s3 with S := s3.S.set n (ns.set j v) } := by
  unfold mBagPut
  rw [h1]
  show (mOpd x Φ s1).bind _ = _
  rw [h2]
  show (mOpd i Φ s2).bind _ = _
  rw [h3]
  show (match s3.S[n]? with
    | some ns => (match L2.ixN ns.length k with
      | some j => (.ok .nx { s3 with S := s3.S.set n (ns.set j v) } : Out Fl)
      | none => .no)
    | none => .no) = _
  rw [h4]
  show (match L2.ixN ns.length k with
      | some j => (.ok .nx { s3 with S := s3.S.set n (ns.set j v) } : Out Fl)
      | none => .no) = _
  rw [h5]
theorem opMod_pos {i j : Int} (h : 0 < j) : opMod (.int i) (.int j) = some (.val (.int (i.fmod j))) := if_pos (by omega)
theorem opDiv_pos {i j : Int} (h : 0 < j) (h' : j < 1000000000) : opDiv (.int i) (.int j) = some (.val (.int (i.fdiv j))) := if_pos (by omega)
theorem opMul_b {i j : Int} (h : 0 ≤ i) (h' : i < 4611686018427387904) : opMul (.int i) (.int j) = some (.val (.int (i * j))) := by
  have p : (2 : Int) ^ 64 = 18446744073709551616 := by decide
  exact if_pos (.inl ⟨by rw [p]; omega, by rw [p]; omega⟩)
theorem opPow_b {i : Int} {k : Nat} (h : 0 ≤ i) (h' : i < 4611686018427387904) (hk : k ≤ 3) : opPow (.int i) (.int (k : Nat)) = some (.val (.int (i ^ k))) := by
  have p : (2 : Nat) ^ 64 = 18446744073709551616 := by decide
  have c : 0 ≤ ((k : Nat) : Int) ∧ ((k : Nat) : Int) ≤ 1000000 ∧ i.natAbs < 2 ^ 64 := ⟨by omega, by omega, by rw [p]; omega⟩
  exact (if_pos c).trans (by rw [Int.toNat_natCast])
theorem opAdd_i {i j : Int} : opAdd (.int i) (.int j) = some (.val (.int (i + j))) := rfl
theorem opSub_i {i j : Int} : opSub (.int i) (.int j) = some (.val (.int (i - j))) := rfl
theorem fmod_in (x : Int) {j : Int} (h : 0 < j) : 0 ≤ x.fmod j ∧ x.fmod j < j := by
  have e : x.fmod j = x % j := by rw [Int.fmod_eq_emod_of_nonneg]; omega
  rw [e]
  exact ⟨Int.emod_nonneg _ (by omega), Int.emod_lt_of_pos _ h⟩
theorem fdiv_in {x j : Int} (h : 0 ≤ x) (h' : 0 < j) : 0 ≤ x.fdiv j := by
  rw [Int.fdiv_eq_ediv_of_nonneg _ (by omega)]
  exact Int.ediv_nonneg h (by omega)
theorem Nxt.put {m N : Nat} {S : Store} {j : Nat} {a b c : Int} (h : Inv m N S) (hj : j < m) (h1 : 0 ≤ a) (h2 : 0 ≤ b) (h3 : b < PM) (h4 : 0 ≤ c) (h5 : c ≤ ((N + 1 : Nat) : Int)) : Nxt m (N + 1) S (S.set j [a, b, c]) := by
  refine ⟨⟨by rw [List.length_set]; exact h.1, fun k hk => ?_⟩, by rw [List.length_set]; exact Nat.le_refl _, fun i hi hl => ?_⟩
  · by_cases e : j = k
    · subst e
      exact ⟨a, b, c, by rw [List.getElem?_set_self (by have := h.1; omega)], h1, h2, h3, h4, h5⟩
    · obtain ⟨a', b', c', e', r⟩ := (h.mono (Nat.le_succ N)).2 k hk
      exact ⟨a', b', c', by rw [List.getElem?_set_ne e]; exact e', r⟩
  · rw [List.getElem?_set_ne (by omega)]
theorem s_take {n m N j : Nat} {S : Store} {k : Int} (h : Inv m N S) (hN : N < 1000000000) (hj : j < m) (hk : 0 < k) (hk' : k < 1000000000) :
    ∃ (S' : Store) (v : Int), Phi df (n + 1) 20 [.bag j, .int k] S = .ok (.val (.int v)) S' ∧ 0 ≤ v ∧ v < k ∧ Nxt m (N + 1) S S' := by
  obtain ⟨a, b, c, e, h1, h2, h3, h4, h5⟩ := h.2 j hj
  have e0 : opIxA S (.bag j) (.int 0) = some (.val (.int a)) := by simp [opIxA, opIxS, e, at0]
  have e1 : opIxA S (.bag j) (.int 1) = some (.val (.int b)) := by simp [opIxA, opIxS, e, at1]
  have e2 : opIxA S (.bag j) (.int 2) = some (.val (.int c)) := by simp [opIxA, opIxS, e, at2]
  by_cases g : a > 0
  · refine ⟨S.set j [a.fdiv k, b, c], a.fmod k, ?_, (fmod_in a hk).1, (fmod_in a hk).2, Nxt.put h hj (fdiv_in h1 hk) h2 h3 h4 (by omega)⟩
    rw [phi_eq d__law_take (id rfl)]
    have hp : mBagPut (mBor 0) (mC (.int 0)) (mOp2 opDiv (mIxA (mBor 0) (mC (.int 0))) (mBor 1)) (Phi df n) ⟨[some (.val (.bag j)), some (.val (.int k)), some (.val (.int (a.fmod k))), none, none], S⟩ = .ok .nx ⟨[some (.val (.bag j)), some (.val (.int k)), some (.val (.int (a.fmod k))), none, none], S.set j [a.fdiv k, b, c]⟩ := by
      refine bput_eq (s1 := ⟨[some (.val (.bag j)), some (.val (.int k)), some (.val (.int (a.fmod k))), none, none], S⟩) (s2 := ⟨[some (.val (.bag j)), some (.val (.int k)), some (.val (.int (a.fmod k))), none, none], S⟩) (s3 := ⟨[some (.val (.bag j)), some (.val (.int k)), some (.val (.int (a.fmod k))), none, none], S⟩) (v := a.fdiv k) (k := 0) (n := j) (j := 0) (by simp [kO1, kO0, e_opd, k_opd, k_opd0, e_frz, k_frz, k_frzo, k_frz0, e_c, e_var, k_var, k_varo, e_bor, k_bor, k_boro, e_args0, e_args, k_args, k_args2, e_looks0, e_looks, k_looks, e_rs0, e_rs, k_rs, k_rs2, e_tup, e_lst, k_tup_0, k_lst_0, k_tup_1, k_lst_1, k_tup_2, k_lst_2, k_tup_3, k_lst_3, k_tup_4, k_lst_4, k_tup_5, k_lst_5, k_tup_6, k_lst_6, e_call, k_call, k_call2, k_call20, e_auto, k_autob, k_autoi, k_auton, k_autot, k_autoo, k_auto0, k_bool, e_bool, e_not, k_not, e_and, k_andt, k_andf, e_or, k_ort, k_orf, e_andV, k_andVt, k_andVf, e_notV, k_notV, e_ifE, k_ifEt, k_ifEf, e_op1, k_op1, e_op2, k_op2, k_op2b, e_ix, k_ix, k_ixb, e_len, k_len, e_b, k_b, e_chain, k_chain, k_chain2, k_chain3, e_sl, k_sl, k_sl2, k_sl3, e_part0, e_part, k_part, e_seq, k_seqn, k_seqr, k_seq0, e_skip, e_no, e_if, k_ift, k_iff, e_asg, k_asg, k_asgo, e_ret, k_ret, k_reto, e_retV, k_retV, k_retVo, e_drop, k_drop, e_par, k_parn, k_new, parR, slotOf, e_asgT, k_asgTn, bindT, bindTs, e_seqI, k_seqIt, k_seqIl, e_enum, k_enumt, k_enuml, e_zip, k_ziptt, k_ziplt, k_ziptl, k_zipll, e_for, k_for, R.d, runF, outF, ρ0, e0, opDiv_pos hk hk']) (by simp [kO1, kO0, e_opd, k_opd, k_opd0, e_frz, k_frz, k_frzo, k_frz0, e_c, e_var, k_var, k_varo, e_bor, k_bor, k_boro, e_args0, e_args, k_args, k_args2, e_looks0, e_looks, k_looks, e_rs0, e_rs, k_rs, k_rs2, e_tup, e_lst, k_tup_0, k_lst_0, k_tup_1, k_lst_1, k_tup_2, k_lst_2, k_tup_3, k_lst_3, k_tup_4, k_lst_4, k_tup_5, k_lst_5, k_tup_6, k_lst_6, e_call, k_call, k_call2, k_call20, e_auto, k_autob, k_autoi, k_auton, k_autot, k_autoo, k_auto0, k_bool, e_bool, e_not, k_not, e_and, k_andt, k_andf, e_or, k_ort, k_orf, e_andV, k_andVt, k_andVf, e_notV, k_notV, e_ifE, k_ifEt, k_ifEf, e_op1, k_op1, e_op2, k_op2, k_op2b, e_ix, k_ix, k_ixb, e_len, k_len, e_b, k_b, e_chain, k_chain, k_chain2, k_chain3, e_sl, k_sl, k_sl2, k_sl3, e_part0, e_part, k_part, e_seq, k_seqn, k_seqr, k_seq0, e_skip, e_no, e_if, k_ift, k_iff, e_asg, k_asg, k_asgo, e_ret, k_ret, k_reto, e_retV, k_retV, k_retVo, e_drop, k_drop, e_par, k_parn, k_new, parR, slotOf, e_asgT, k_asgTn, bindT, bindTs, e_seqI, k_seqIt, k_seqIl, e_enum, k_enumt, k_enuml, e_zip, k_ziptt, k_ziplt, k_ziptl, k_zipll, e_for, k_for, R.d, runF, outF, ρ0]) (by simp [kO1, kO0, e_opd, k_opd, k_opd0, e_frz, k_frz, k_frzo, k_frz0, e_c, e_var, k_var, k_varo, e_bor, k_bor, k_boro, e_args0, e_args, k_args, k_args2, e_looks0, e_looks, k_looks, e_rs0, e_rs, k_rs, k_rs2, e_tup, e_lst, k_tup_0, k_lst_0, k_tup_1, k_lst_1, k_tup_2, k_lst_2, k_tup_3, k_lst_3, k_tup_4, k_lst_4, k_tup_5, k_lst_5, k_tup_6, k_lst_6, e_call, k_call, k_call2, k_call20, e_auto, k_autob, k_autoi, k_auton, k_autot, k_autoo, k_auto0, k_bool, e_bool, e_not, k_not, e_and, k_andt, k_andf, e_or, k_ort, k_orf, e_andV, k_andVt, k_andVf, e_notV, k_notV, e_ifE, k_ifEt, k_ifEf, e_op1, k_op1, e_op2, k_op2, k_op2b, e_ix, k_ix, k_ixb, e_len, k_len, e_b, k_b, e_chain, k_chain, k_chain2, k_chain3, e_sl, k_sl, k_sl2, k_sl3, e_part0, e_part, k_part, e_seq, k_seqn, k_seqr, k_seq0, e_skip, e_no, e_if, k_ift, k_iff, e_asg, k_asg, k_asgo, e_ret, k_ret, k_reto, e_retV, k_retV, k_retVo, e_drop, k_drop, e_par, k_parn, k_new, parR, slotOf, e_asgT, k_asgTn, bindT, bindTs, e_seqI, k_seqIt, k_seqIl, e_enum, k_enumt, k_enuml, e_zip, k_ziptt, k_ziplt, k_ziptl, k_zipll, e_for, k_for, R.d, runF, outF, ρ0]) e rfl
    simp [kO1, kO0, e_opd, k_opd, k_opd0, e_frz, k_frz, k_frzo, k_frz0, e_c, e_var, k_var, k_varo, e_bor, k_bor, k_boro, e_args0, e_args, k_args, k_args2, e_looks0, e_looks, k_looks, e_rs0, e_rs, k_rs, k_rs2, e_tup, e_lst, k_tup_0, k_lst_0, k_tup_1, k_lst_1, k_tup_2, k_lst_2, k_tup_3, k_lst_3, k_tup_4, k_lst_4, k_tup_5, k_lst_5, k_tup_6, k_lst_6, e_call, k_call, k_call2, k_call20, e_auto, k_autob, k_autoi, k_auton, k_autot, k_autoo, k_auto0, k_bool, e_bool, e_not, k_not, e_and, k_andt, k_andf, e_or, k_ort, k_orf, e_andV, k_andVt, k_andVf, e_notV, k_notV, e_ifE, k_ifEt, k_ifEf, e_op1, k_op1, e_op2, k_op2, k_op2b, e_ix, k_ix, k_ixb, e_len, k_len, e_b, k_b, e_chain, k_chain, k_chain2, k_chain3, e_sl, k_sl, k_sl2, k_sl3, e_part0, e_part, k_part, e_seq, k_seqn, k_seqr, k_seq0, e_skip, e_no, e_if, k_ift, k_iff, e_asg, k_asg, k_asgo, e_ret, k_ret, k_reto, e_retV, k_retV, k_retVo, e_drop, k_drop, e_par, k_parn, k_new, parR, slotOf, e_asgT, k_asgTn, bindT, bindTs, e_seqI, k_seqIt, k_seqIl, e_enum, k_enumt, k_enuml, e_zip, k_ziptt, k_ziplt, k_ziptl, k_zipll, e_for, k_for, R.d, runF, outF, ρ0, m__law_take, e0, opI, g, opMod_pos hk, hp]
  · have pm : (0 : Int) < 2305843009213693951 := by decide
    have hc : 0 ≤ c + 1 := by omega
    have hc' : c + 1 < 4611686018427387904 := by omega
    have i1 := fmod_in (b + 1000003 * (c + 1)) pm
    generalize hx : (b + 1000003 * (c + 1)).fmod 2305843009213693951 = x at i1
    have i2 := fmod_in (x * x + 7919 * (c + 1) ^ 2 + 5) pm
    generalize hy : (x * x + 7919 * (c + 1) ^ 2 + 5).fmod 2305843009213693951 = y at i2
    have i3 := fmod_in (((y ^ 3).fmod 2305843009213693951).fdiv 13) hk
    refine ⟨S.set j [a, b, c + 1], (((y ^ 3).fmod 2305843009213693951).fdiv 13).fmod k, ?_, i3.1, i3.2, Nxt.put h hj h1 h2 h3 hc (by omega)⟩
    rw [phi_eq d__law_take (id rfl)]
    have hp : mBagPut (mBor 0) (mC (.int 2)) (mOp2 opAdd (mIxA (mBor 0) (mC (.int 2))) (mC (.int 1))) (Phi df n) ⟨[some (.val (.bag j)), some (.val (.int k)), none, none, none], S⟩ = .ok .nx ⟨[some (.val (.bag j)), some (.val (.int k)), none, none, none], S.set j [a, b, c + 1]⟩ := by
      refine bput_eq (s1 := ⟨[some (.val (.bag j)), some (.val (.int k)), none, none, none], S⟩) (s2 := ⟨[some (.val (.bag j)), some (.val (.int k)), none, none, none], S⟩) (s3 := ⟨[some (.val (.bag j)), some (.val (.int k)), none, none, none], S⟩) (v := c + 1) (k := 2) (n := j) (j := 2) (by simp [kO1, kO0, e_opd, k_opd, k_opd0, e_frz, k_frz, k_frzo, k_frz0, e_c, e_var, k_var, k_varo, e_bor, k_bor, k_boro, e_args0, e_args, k_args, k_args2, e_looks0, e_looks, k_looks, e_rs0, e_rs, k_rs, k_rs2, e_tup, e_lst, k_tup_0, k_lst_0, k_tup_1, k_lst_1, k_tup_2, k_lst_2, k_tup_3, k_lst_3, k_tup_4, k_lst_4, k_tup_5, k_lst_5, k_tup_6, k_lst_6, e_call, k_call, k_call2, k_call20, e_auto, k_autob, k_autoi, k_auton, k_autot, k_autoo, k_auto0, k_bool, e_bool, e_not, k_not, e_and, k_andt, k_andf, e_or, k_ort, k_orf, e_andV, k_andVt, k_andVf, e_notV, k_notV, e_ifE, k_ifEt, k_ifEf, e_op1, k_op1, e_op2, k_op2, k_op2b, e_ix, k_ix, k_ixb, e_len, k_len, e_b, k_b, e_chain, k_chain, k_chain2, k_chain3, e_sl, k_sl, k_sl2, k_sl3, e_part0, e_part, k_part, e_seq, k_seqn, k_seqr, k_seq0, e_skip, e_no, e_if, k_ift, k_iff, e_asg, k_asg, k_asgo, e_ret, k_ret, k_reto, e_retV, k_retV, k_retVo, e_drop, k_drop, e_par, k_parn, k_new, parR, slotOf, e_asgT, k_asgTn, bindT, bindTs, e_seqI, k_seqIt, k_seqIl, e_enum, k_enumt, k_enuml, e_zip, k_ziptt, k_ziplt, k_ziptl, k_zipll, e_for, k_for, R.d, runF, outF, ρ0, e2, opAdd_i]) (by simp [kO1, kO0, e_opd, k_opd, k_opd0, e_frz, k_frz, k_frzo, k_frz0, e_c, e_var, k_var, k_varo, e_bor, k_bor, k_boro, e_args0, e_args, k_args, k_args2, e_looks0, e_looks, k_looks, e_rs0, e_rs, k_rs, k_rs2, e_tup, e_lst, k_tup_0, k_lst_0, k_tup_1, k_lst_1, k_tup_2, k_lst_2, k_tup_3, k_lst_3, k_tup_4, k_lst_4, k_tup_5, k_lst_5, k_tup_6, k_lst_6, e_call, k_call, k_call2, k_call20, e_auto, k_autob, k_autoi, k_auton, k_autot, k_autoo, k_auto0, k_bool, e_bool, e_not, k_not, e_and, k_andt, k_andf, e_or, k_ort, k_orf, e_andV, k_andVt, k_andVf, e_notV, k_notV, e_ifE, k_ifEt, k_ifEf, e_op1, k_op1, e_op2, k_op2, k_op2b, e_ix, k_ix, k_ixb, e_len, k_len, e_b, k_b, e_chain, k_chain, k_chain2, k_chain3, e_sl, k_sl, k_sl2, k_sl3, e_part0, e_part, k_part, e_seq, k_seqn, k_seqr, k_seq0, e_skip, e_no, e_if, k_ift, k_iff, e_asg, k_asg, k_asgo, e_ret, k_ret, k_reto, e_retV, k_retV, k_retVo, e_drop, k_drop, e_par, k_parn, k_new, parR, slotOf, e_asgT, k_asgTn, bindT, bindTs, e_seqI, k_seqIt, k_seqIl, e_enum, k_enumt, k_enuml, e_zip, k_ziptt, k_ziplt, k_ziptl, k_zipll, e_for, k_for, R.d, runF, outF, ρ0]) (by simp [kO1, kO0, e_opd, k_opd, k_opd0, e_frz, k_frz, k_frzo, k_frz0, e_c, e_var, k_var, k_varo, e_bor, k_bor, k_boro, e_args0, e_args, k_args, k_args2, e_looks0, e_looks, k_looks, e_rs0, e_rs, k_rs, k_rs2, e_tup, e_lst, k_tup_0, k_lst_0, k_tup_1, k_lst_1, k_tup_2, k_lst_2, k_tup_3, k_lst_3, k_tup_4, k_lst_4, k_tup_5, k_lst_5, k_tup_6, k_lst_6, e_call, k_call, k_call2, k_call20, e_auto, k_autob, k_autoi, k_auton, k_autot, k_autoo, k_auto0, k_bool, e_bool, e_not, k_not, e_and, k_andt, k_andf, e_or, k_ort, k_orf, e_andV, k_andVt, k_andVf, e_notV, k_notV, e_ifE, k_ifEt, k_ifEf, e_op1, k_op1, e_op2, k_op2, k_op2b, e_ix, k_ix, k_ixb, e_len, k_len, e_b, k_b, e_chain, k_chain, k_chain2, k_chain3, e_sl, k_sl, k_sl2, k_sl3, e_part0, e_part, k_part, e_seq, k_seqn, k_seqr, k_seq0, e_skip, e_no, e_if, k_ift, k_iff, e_asg, k_asg, k_asgo, e_ret, k_ret, k_reto, e_retV, k_retV, k_retVo, e_drop, k_drop, e_par, k_parn, k_new, parR, slotOf, e_asgT, k_asgTn, bindT, bindTs, e_seqI, k_seqIt, k_seqIl, e_enum, k_enumt, k_enuml, e_zip, k_ziptt, k_ziplt, k_ziptl, k_zipll, e_for, k_for, R.d, runF, outF, ρ0]) e rfl
    have e' : (S.set j [a, b, c + 1])[j]? = some [a, b, c + 1] := List.getElem?_set_self (by have := h.1; omega)
    have f1 : opIxA (S.set j [a, b, c + 1]) (.bag j) (.int 1) = some (.val (.int b)) := by simp [opIxA, opIxS, e', at1]
    have f2 : opIxA (S.set j [a, b, c + 1]) (.bag j) (.int 2) = some (.val (.int (c + 1))) := by simp [opIxA, opIxS, e', at2]
    have o1 : opMul (.int 1000003) (.int (c + 1)) = some (.val (.int (1000003 * (c + 1)))) := opMul_b (by omega) (by omega)
    have o2 : opMul (.int 7919) (.int ((c + 1) ^ 2)) = some (.val (.int (7919 * (c + 1) ^ 2))) := opMul_b (by omega) (by omega)
    have o3 : opPow (.int (c + 1)) (.int 2) = some (.val (.int ((c + 1) ^ 2))) := opPow_b (k := 2) hc hc' (by omega)
    have o4 : opMul (.int x) (.int x) = some (.val (.int (x * x))) := opMul_b i1.1 (by omega)
    have o5 : opPow (.int y) (.int 3) = some (.val (.int (y ^ 3))) := opPow_b (k := 3) i2.1 (by omega) (by omega)
    have o6 : ∀ z : Int, opDiv (.int z) (.int 13) = some (.val (.int (z.fdiv 13))) := fun z => opDiv_pos (by omega) (by omega)
    have o7 : ∀ z : Int, opMod (.int z) (.int 2305843009213693951) = some (.val (.int (z.fmod 2305843009213693951))) := fun z => opMod_pos pm
    simp [kO1, kO0, e_opd, k_opd, k_opd0, e_frz, k_frz, k_frzo, k_frz0, e_c, e_var, k_var, k_varo, e_bor, k_bor, k_boro, e_args0, e_args, k_args, k_args2, e_looks0, e_looks, k_looks, e_rs0, e_rs, k_rs, k_rs2, e_tup, e_lst, k_tup_0, k_lst_0, k_tup_1, k_lst_1, k_tup_2, k_lst_2, k_tup_3, k_lst_3, k_tup_4, k_lst_4, k_tup_5, k_lst_5, k_tup_6, k_lst_6, e_call, k_call, k_call2, k_call20, e_auto, k_autob, k_autoi, k_auton, k_autot, k_autoo, k_auto0, k_bool, e_bool, e_not, k_not, e_and, k_andt, k_andf, e_or, k_ort, k_orf, e_andV, k_andVt, k_andVf, e_notV, k_notV, e_ifE, k_ifEt, k_ifEf, e_op1, k_op1, e_op2, k_op2, k_op2b, e_ix, k_ix, k_ixb, e_len, k_len, e_b, k_b, e_chain, k_chain, k_chain2, k_chain3, e_sl, k_sl, k_sl2, k_sl3, e_part0, e_part, k_part, e_seq, k_seqn, k_seqr, k_seq0, e_skip, e_no, e_if, k_ift, k_iff, e_asg, k_asg, k_asgo, e_ret, k_ret, k_reto, e_retV, k_retV, k_retVo, e_drop, k_drop, e_par, k_parn, k_new, parR, slotOf, e_asgT, k_asgTn, bindT, bindTs, e_seqI, k_seqIt, k_seqIl, e_enum, k_enumt, k_enuml, e_zip, k_ziptt, k_ziplt, k_ziptl, k_zipll, e_for, k_for, R.d, runF, outF, ρ0, m__law_take, e0, opI, g, hp, f1, f2, opAdd_i, o1, o2, o3, o4, o5, o6, o7, opMod_pos hk, hx, hy, -Int.reducePow]
theorem s_well {n : Nat} {S : Store} {c t : Int} : ∃ a b : Int, Phi df (n + 1) 19 [.int c, .int t] S = .ok (.own (.lst [.int a, .int b, .int t])) S ∧ 0 ≤ a ∧ 0 ≤ b ∧ b < PM := by
  have pm : (0 : Int) < 2305843009213693951 := by decide
  have hm := fmod_in c pm
  have ho : opMod (.int c) (.int 2305843009213693951) = some (.val (.int (c.fmod 2305843009213693951))) := opMod_pos pm
  generalize c.fmod 2305843009213693951 = b at hm ho
  obtain ⟨w, hp⟩ : ∃ w : Int, opPow (.int 10) (.int 18) = some (.val (.int w)) := by
    have p : (2 : Nat) ^ 64 = 18446744073709551616 := by decide
    have hc : 0 ≤ (18 : Int) ∧ (18 : Int) ≤ 1000000 ∧ (10 : Int).natAbs < 2 ^ 64 := ⟨by omega, by omega, by rw [p]; omega⟩
    exact ⟨(10 : Int) ^ (18 : Int).toNat, by simp only [opPow]; rw [if_pos hc]⟩
  by_cases g : c ≥ w
  · refine ⟨c - w, b, ?_, by omega, hm⟩
    rw [phi_eq d__law_well (id rfl)]
    simp [kO1, kO0, e_opd, k_opd, k_opd0, e_frz, k_frz, k_frzo, k_frz0, e_c, e_var, k_var, k_varo, e_bor, k_bor, k_boro, e_args0, e_args, k_args, k_args2, e_looks0, e_looks, k_looks, e_rs0, e_rs, k_rs, k_rs2, e_tup, e_lst, k_tup_0, k_lst_0, k_tup_1, k_lst_1, k_tup_2, k_lst_2, k_tup_3, k_lst_3, k_tup_4, k_lst_4, k_tup_5, k_lst_5, k_tup_6, k_lst_6, e_call, k_call, k_call2, k_call20, e_auto, k_autob, k_autoi, k_auton, k_autot, k_autoo, k_auto0, k_bool, e_bool, e_not, k_not, e_and, k_andt, k_andf, e_or, k_ort, k_orf, e_andV, k_andVt, k_andVf, e_notV, k_notV, e_ifE, k_ifEt, k_ifEf, e_op1, k_op1, e_op2, k_op2, k_op2b, e_ix, k_ix, k_ixb, e_len, k_len, e_b, k_b, e_chain, k_chain, k_chain2, k_chain3, e_sl, k_sl, k_sl2, k_sl3, e_part0, e_part, k_part, e_seq, k_seqn, k_seqr, k_seq0, e_skip, e_no, e_if, k_ift, k_iff, e_asg, k_asg, k_asgo, e_ret, k_ret, k_reto, e_retV, k_retV, k_retVo, e_drop, k_drop, e_par, k_parn, k_new, parR, slotOf, e_asgT, k_asgTn, bindT, bindTs, e_seqI, k_seqIt, k_seqIl, e_enum, k_enumt, k_enuml, e_zip, k_ziptt, k_ziplt, k_ziptl, k_zipll, e_for, k_for, R.d, runF, outF, ρ0, m__law_well, hp, opI, g, opSub_i, ho]
  · refine ⟨0, b, ?_, by omega, hm⟩
    rw [phi_eq d__law_well (id rfl)]
    simp [kO1, kO0, e_opd, k_opd, k_opd0, e_frz, k_frz, k_frzo, k_frz0, e_c, e_var, k_var, k_varo, e_bor, k_bor, k_boro, e_args0, e_args, k_args, k_args2, e_looks0, e_looks, k_looks, e_rs0, e_rs, k_rs, k_rs2, e_tup, e_lst, k_tup_0, k_lst_0, k_tup_1, k_lst_1, k_tup_2, k_lst_2, k_tup_3, k_lst_3, k_tup_4, k_lst_4, k_tup_5, k_lst_5, k_tup_6, k_lst_6, e_call, k_call, k_call2, k_call20, e_auto, k_autob, k_autoi, k_auton, k_autot, k_autoo, k_auto0, k_bool, e_bool, e_not, k_not, e_and, k_andt, k_andf, e_or, k_ort, k_orf, e_andV, k_andVt, k_andVf, e_notV, k_notV, e_ifE, k_ifEt, k_ifEf, e_op1, k_op1, e_op2, k_op2, k_op2b, e_ix, k_ix, k_ixb, e_len, k_len, e_b, k_b, e_chain, k_chain, k_chain2, k_chain3, e_sl, k_sl, k_sl2, k_sl3, e_part0, e_part, k_part, e_seq, k_seqn, k_seqr, k_seq0, e_skip, e_no, e_if, k_ift, k_iff, e_asg, k_asg, k_asgo, e_ret, k_ret, k_reto, e_retV, k_retV, k_retVo, e_drop, k_drop, e_par, k_parn, k_new, parR, slotOf, e_asgT, k_asgTn, bindT, bindTs, e_seqI, k_seqIt, k_seqIl, e_enum, k_enumt, k_enuml, e_zip, k_ziptt, k_ziplt, k_ziptl, k_zipll, e_for, k_for, R.d, runF, outF, ρ0, m__law_well, hp, opI, g, opSub_i, ho]
def enumI : Nat → List Int → List (Nat × Int)
  | _, [] => []
  | i, c :: r => (i, c) :: enumI (i + 1) r
theorem enumI_d : ∀ (l : List Int) (i : Nat), enumFrom i (l.map D.int) = (enumI i l).map fun p => D.tup [.int (p.1 : Nat), .int p.2]
  | [], _ => rfl
  | c :: r, i => by
    show D.tup [.int (i : Nat), .int c] :: enumFrom (i + 1) (r.map D.int) = _
    rw [enumI_d r (i + 1)]; rfl
theorem enumI_len : ∀ (l : List Int) (i : Nat), (enumI i l).length = l.length
  | [], _ => rfl
  | c :: r, i => by
    show (enumI (i + 1) r).length + 1 = r.length + 1
    rw [enumI_len r]
theorem enumI_mem : ∀ (l : List Int) (i : Nat) (p : Nat × Int), p ∈ enumI i l → p.1 < i + l.length
  | c :: r, i, p, h => by
    rcases List.mem_cons.1 h with e | e
    · subst e; show i < i + (r.length + 1); omega
    · have := enumI_mem r (i + 1) p e
      show p.1 < i + (r.length + 1); omega
/-- bags as they stand after so many -/
def Made (N : Nat) (S : Store) : Prop := S.length = N ∧ ∀ k, k < N → ∃ a b c : Int, S[k]? = some [a, b, c] ∧ 0 ≤ a ∧ 0 ≤ b ∧ b < PM ∧ 0 ≤ c ∧ c ≤ 10000
/-- the law's bags, of the first so many cells -/
theorem s_bagsN {n mo : Nat} {ns : List Int} (hmo : mo ≤ 10) : ∃ (S' : Store) (bs : List Nat), Phi df (n + 2) 21 [.scr ns, .int (mo : Nat)] [] = .ok (.own (.lst (bs.map D.bag))) S' ∧ (∀ b ∈ bs, b < bs.length) ∧ 1 ≤ bs.length ∧ bs.length ≤ mo + 1 ∧ Inv bs.length 10000 S' := by
  have hs : opSl (.scr ns) none (some (mo : Nat)) = some (.own (.lst ((ns.take mo).map D.int))) := by
    have h : cutD ns none (some ((mo : Nat) : Int)) = ns.take mo := by
      unfold cutD
      rw [HT.sIx_none, HT.sIx_nat]
      simp
    show some (DL.R.own (.lst ((cutD ns none (some ((mo : Nat) : Int))).map D.int))) = _
    rw [h]
  generalize hl : ns.take mo ++ [0] = l
  have hll : 1 ≤ l.length ∧ l.length ≤ mo + 1 := by rw [← hl]; simp; omega
  have ha : opAdd (.lst ((ns.take mo).map D.int)) (.lst [.int 0]) = some (.own (.lst (l.map D.int))) := by
    rw [opAdd_l (by simp; omega), ← hl]; simp
  generalize ns.take mo = l6 at hs ha
  have hi : mEnum (mArgs [(mOp2 opAdd (mSl (mBor 0) none (some (mBor 1))) (mLst (mArgs [(mC (.int 0))])))]) (Phi df (n + 1)) ⟨[some (.val (.scr ns)), some (.val (.int (mo : Nat))), none, none], []⟩ = .ok ((enumI 0 l).map fun p => D.tup [.int (p.1 : Nat), .int p.2]) ⟨[some (.val (.scr ns)), some (.val (.int (mo : Nat))), none, none], []⟩ := by
    rw [← enumI_d]
    simp [kO1, kO0, e_opd, k_opd, k_opd0, e_frz, k_frz, k_frzo, k_frz0, e_c, e_var, k_var, k_varo, e_bor, k_bor, k_boro, e_args0, e_args, k_args, k_args2, e_looks0, e_looks, k_looks, e_rs0, e_rs, k_rs, k_rs2, e_tup, e_lst, k_tup_0, k_lst_0, k_tup_1, k_lst_1, k_tup_2, k_lst_2, k_tup_3, k_lst_3, k_tup_4, k_lst_4, k_tup_5, k_lst_5, k_tup_6, k_lst_6, e_call, k_call, k_call2, k_call20, e_auto, k_autob, k_autoi, k_auton, k_autot, k_autoo, k_auto0, k_bool, e_bool, e_not, k_not, e_and, k_andt, k_andf, e_or, k_ort, k_orf, e_andV, k_andVt, k_andVf, e_notV, k_notV, e_ifE, k_ifEt, k_ifEf, e_op1, k_op1, e_op2, k_op2, k_op2b, e_ix, k_ix, k_ixb, e_len, k_len, e_b, k_b, e_chain, k_chain, k_chain2, k_chain3, e_sl, k_sl, k_sl2, k_sl3, e_part0, e_part, k_part, e_seq, k_seqn, k_seqr, k_seq0, e_skip, e_no, e_if, k_ift, k_iff, e_asg, k_asg, k_asgo, e_ret, k_ret, k_reto, e_retV, k_retV, k_retVo, e_drop, k_drop, e_par, k_parn, k_new, parR, slotOf, e_asgT, k_asgTn, bindT, bindTs, e_seqI, k_seqIt, k_seqIl, e_enum, k_enumt, k_enuml, e_zip, k_ziptt, k_ziplt, k_ziptl, k_zipll, e_for, k_for, R.d, runF, outF, ρ0, hs, Cont.d, ha]
  obtain ⟨bs, S', e1, e2, e3, e4⟩ := mComp_draw (t := .tup [.name 2, .name 3]) (vs := [2, 3]) (e := mBag (mCall 19 (mArgs [(mVar 3), (mOp2 opMul (mC (.int 977)) (mBor 2))]))) (ρ2 := [some (.val (.scr ns)), some (.val (.int (mo : Nat))), none, none]) (ρ5 := [some (.val (.scr ns)), some (.val (.int (mo : Nat))), none, none]) (fun p : Nat × Int => D.tup [.int (p.1 : Nat), .int p.2]) D.bag (fun y => y < l.length) Made 1 l.length 0 (enumI 0 l) hi rfl rfl ⟨rfl, fun k hk => absurd hk (Nat.not_lt_zero k)⟩ (by rw [enumI_len]; omega) (fun x hx N' S1 hN' hI => by
    obtain ⟨i, c⟩ := x
    have hx' := enumI_mem l 0 _ hx
    simp only at hx'
    have om : opMul (.int 977) (.int (i : Nat)) = some (.val (.int (977 * (i : Nat)))) := opMul_b (by omega) (by omega)
    obtain ⟨a, b, t1, a0, b0, b1⟩ := s_well (n := n) (S := S1) (c := c) (t := 977 * (i : Nat))
    have hb : mBag (mCall 19 (mArgs [(mVar 3), (mOp2 opMul (mC (.int 977)) (mBor 2))])) (Phi df (n + 1)) ⟨[some (.val (.scr ns)), some (.val (.int (mo : Nat))), some (.val (.int (i : Nat))), some (.val (.int c))], S1⟩ = .ok (.val (.bag S1.length)) ⟨[some (.val (.scr ns)), some (.val (.int (mo : Nat))), some (.val (.int (i : Nat))), some (.val (.int c))], S1 ++ [[a, b, 977 * (i : Nat)]]⟩ := bag_new (ns := [a, b, 977 * (i : Nat)]) (by simp [kO1, kO0, e_opd, k_opd, k_opd0, e_frz, k_frz, k_frzo, k_frz0, e_c, e_var, k_var, k_varo, e_bor, k_bor, k_boro, e_args0, e_args, k_args, k_args2, e_looks0, e_looks, k_looks, e_rs0, e_rs, k_rs, k_rs2, e_tup, e_lst, k_tup_0, k_lst_0, k_tup_1, k_lst_1, k_tup_2, k_lst_2, k_tup_3, k_lst_3, k_tup_4, k_lst_4, k_tup_5, k_lst_5, k_tup_6, k_lst_6, e_call, k_call, k_call2, k_call20, e_auto, k_autob, k_autoi, k_auton, k_autot, k_autoo, k_auto0, k_bool, e_bool, e_not, k_not, e_and, k_andt, k_andf, e_or, k_ort, k_orf, e_andV, k_andVt, k_andVf, e_notV, k_notV, e_ifE, k_ifEt, k_ifEf, e_op1, k_op1, e_op2, k_op2, k_op2b, e_ix, k_ix, k_ixb, e_len, k_len, e_b, k_b, e_chain, k_chain, k_chain2, k_chain3, e_sl, k_sl, k_sl2, k_sl3, e_part0, e_part, k_part, e_seq, k_seqn, k_seqr, k_seq0, e_skip, e_no, e_if, k_ift, k_iff, e_asg, k_asg, k_asgo, e_ret, k_ret, k_reto, e_retV, k_retV, k_retVo, e_drop, k_drop, e_par, k_parn, k_new, parR, slotOf, e_asgT, k_asgTn, bindT, bindTs, e_seqI, k_seqIt, k_seqIl, e_enum, k_enumt, k_enuml, e_zip, k_ziptt, k_ziplt, k_ziptl, k_zipll, e_for, k_for, R.d, runF, outF, ρ0, om, t1])
    refine ⟨[some (.val (.scr ns)), some (.val (.int (mo : Nat))), some (.val (.int (i : Nat))), some (.val (.int c))], [some (.val (.scr ns)), some (.val (.int (mo : Nat))), some (.val (.int (i : Nat))), some (.val (.int c))], S1.length, S1 ++ [[a, b, 977 * (i : Nat)]], rfl, by rw [e_frz, hb]; rfl, rfl, by have := hI.1; omega, by have := hI.1; simp; omega, fun k hk => ?_⟩
    have h1 := hI.1
    rcases Nat.lt_succ_iff_lt_or_eq.1 hk with z | z
    · obtain ⟨a', b', c', e', r⟩ := hI.2 k z
      exact ⟨a', b', c', by rw [List.getElem?_append_left (get_lt e')]; exact e', r⟩
    · subst z
      refine ⟨a, b, 977 * (i : Nat), ?_, a0, b0, b1, by omega, by omega⟩
      rw [← h1, List.getElem?_append_right (Nat.le_refl _)]
      simp) (by have := lim99; rw [enumI_len]; omega)
  rw [enumI_len] at e1 e4
  refine ⟨S', bs, ?_, fun b hb => by rw [e1]; exact e2 b hb, by omega, by omega, ?_⟩
  · rw [phi_eq d__law_bags (id rfl)]
    simp [kO1, kO0, e_opd, k_opd, k_opd0, e_frz, k_frz, k_frzo, k_frz0, e_c, e_var, k_var, k_varo, e_bor, k_bor, k_boro, e_args0, e_args, k_args, k_args2, e_looks0, e_looks, k_looks, e_rs0, e_rs, k_rs, k_rs2, e_tup, e_lst, k_tup_0, k_lst_0, k_tup_1, k_lst_1, k_tup_2, k_lst_2, k_tup_3, k_lst_3, k_tup_4, k_lst_4, k_tup_5, k_lst_5, k_tup_6, k_lst_6, e_call, k_call, k_call2, k_call20, e_auto, k_autob, k_autoi, k_auton, k_autot, k_autoo, k_auto0, k_bool, e_bool, e_not, k_not, e_and, k_andt, k_andf, e_or, k_ort, k_orf, e_andV, k_andVt, k_andVf, e_notV, k_notV, e_ifE, k_ifEt, k_ifEf, e_op1, k_op1, e_op2, k_op2, k_op2b, e_ix, k_ix, k_ixb, e_len, k_len, e_b, k_b, e_chain, k_chain, k_chain2, k_chain3, e_sl, k_sl, k_sl2, k_sl3, e_part0, e_part, k_part, e_seq, k_seqn, k_seqr, k_seq0, e_skip, e_no, e_if, k_ift, k_iff, e_asg, k_asg, k_asgo, e_ret, k_ret, k_reto, e_retV, k_retV, k_retVo, e_drop, k_drop, e_par, k_parn, k_new, parR, slotOf, e_asgT, k_asgTn, bindT, bindTs, e_seqI, k_seqIt, k_seqIl, e_enum, k_enumt, k_enuml, e_zip, k_ziptt, k_ziplt, k_ziptl, k_zipll, e_for, k_for, R.d, runF, outF, ρ0, m__law_bags, e3]
  · obtain ⟨m1, m2⟩ := e4
    exact ⟨by omega, fun k hk => by
      obtain ⟨a, b, c, r⟩ := m2 k (by omega)
      exact ⟨a, b, c, r⟩⟩
end KK
end

section
set_option Elab.async false
set_option linter.all false
set_option maxRecDepth 100000
set_option maxHeartbeats 8000000
namespace KK
open PySem DL
def ml : List Fe := [⟨1, 1, m_is_whole⟩, ⟨3, 3, m_is_within⟩, ⟨2, 2, m_is_row⟩, ⟨2, 3, m_is_range⟩, ⟨1, 1, m_is_hold⟩, ⟨4, 4, m_is_source⟩, ⟨4, 4, m_is_term⟩, ⟨5, 10, m_is_block⟩, ⟨3, 7, m_are_blocks⟩, ⟨1, 6, m_is_rule⟩, ⟨1, 1, m_look_at_rule⟩, ⟨1, 3, m_holds_of⟩, ⟨3, 3, m_led⟩, ⟨3, 5, m_led_block⟩, ⟨1, 1, m_looked_at⟩, ⟨2, 2, m_look_at_caps⟩, ⟨2, 12, m_fed⟩, ⟨2, 9, m_beside⟩, ⟨2, 12, m_closed⟩, ⟨2, 2, m__law_well⟩, ⟨2, 5, m__law_take⟩, ⟨2, 4, m__law_bags⟩, ⟨1, 5, f__law_kind.d.m (tbOf fns cs) bf bv dv⟩, ⟨1, 3, f__law_tried.d.m (tbOf fns cs) bf bv dv⟩, ⟨2, 2, m__law_blocks⟩, ⟨2, 12, m__law_sizes_right⟩, ⟨1, 11, m_law⟩]
theorem fns_ml : fns.map (fun e => (⟨e.d.ps.length, e.d.N.length, e.d.m (tbOf fns cs) bf bv dv⟩ : Fe)) = ml := by
  show [⟨1, 1, f_is_whole.d.m (tbOf fns cs) bf bv dv⟩, ⟨3, 3, f_is_within.d.m (tbOf fns cs) bf bv dv⟩, ⟨2, 2, f_is_row.d.m (tbOf fns cs) bf bv dv⟩, ⟨2, 3, f_is_range.d.m (tbOf fns cs) bf bv dv⟩, ⟨1, 1, f_is_hold.d.m (tbOf fns cs) bf bv dv⟩, ⟨4, 4, f_is_source.d.m (tbOf fns cs) bf bv dv⟩, ⟨4, 4, f_is_term.d.m (tbOf fns cs) bf bv dv⟩, ⟨5, 10, f_is_block.d.m (tbOf fns cs) bf bv dv⟩, ⟨3, 7, f_are_blocks.d.m (tbOf fns cs) bf bv dv⟩, ⟨1, 6, f_is_rule.d.m (tbOf fns cs) bf bv dv⟩, ⟨1, 1, f_look_at_rule.d.m (tbOf fns cs) bf bv dv⟩, ⟨1, 3, f_holds_of.d.m (tbOf fns cs) bf bv dv⟩, ⟨3, 3, f_led.d.m (tbOf fns cs) bf bv dv⟩, ⟨3, 5, f_led_block.d.m (tbOf fns cs) bf bv dv⟩, ⟨1, 1, f_looked_at.d.m (tbOf fns cs) bf bv dv⟩, ⟨2, 2, f_look_at_caps.d.m (tbOf fns cs) bf bv dv⟩, ⟨2, 12, f_fed.d.m (tbOf fns cs) bf bv dv⟩, ⟨2, 9, f_beside.d.m (tbOf fns cs) bf bv dv⟩, ⟨2, 12, f_closed.d.m (tbOf fns cs) bf bv dv⟩, ⟨2, 2, f__law_well.d.m (tbOf fns cs) bf bv dv⟩, ⟨2, 5, f__law_take.d.m (tbOf fns cs) bf bv dv⟩, ⟨2, 4, f__law_bags.d.m (tbOf fns cs) bf bv dv⟩, ⟨1, 5, f__law_kind.d.m (tbOf fns cs) bf bv dv⟩, ⟨1, 3, f__law_tried.d.m (tbOf fns cs) bf bv dv⟩, ⟨2, 2, f__law_blocks.d.m (tbOf fns cs) bf bv dv⟩, ⟨2, 12, f__law_sizes_right.d.m (tbOf fns cs) bf bv dv⟩, ⟨1, 11, f_law.d.m (tbOf fns cs) bf bv dv⟩] = ml
  rw [e_is_whole, e_is_within, e_is_row, e_is_range, e_is_hold, e_is_source, e_is_term, e_is_block, e_are_blocks, e_is_rule, e_look_at_rule, e_holds_of, e_led, e_led_block, e_looked_at, e_look_at_caps, e_fed, e_beside, e_closed, e__law_well, e__law_take, e__law_bags, e__law_blocks, e__law_sizes_right, e_law]
  rfl
def dfm (i : Nat) : Option Fe := ml[i]?
theorem df_dfm : df = dfm := by
  funext i
  show (fns[i]?).map (fun e => (⟨e.d.ps.length, e.d.N.length, e.d.m (tbOf fns cs) bf bv dv⟩ : Fe)) = ml[i]?
  rw [← List.getElem?_map, fns_ml]
def restM : M Fl := (mSeq (mAsg 3 (mTup (mArgs [(mTup (mArgs [(mC (.int 0)), (mC (.int 1))]))]))) (mSeq (mPar [4, 5] (mRs [(mTup (mArgs [(mVar 2), (mVar 3), (mAuto (mCall 24 (mArgs [(mC (.int 3)), (mC (.int 1))]))), (mTup (mArgs [(mTup (mArgs [(mC (.str "in")), (mC (.int 0))]))]))])), (mTup (mArgs [(mOp2 opAdd (mBor 2) (mC (.int 1))), (mVar 3), (mTup (mArgs [])), (mTup (mArgs [(mTup (mArgs [(mC (.str "in")), (mC (.int 0))]))]))]))])) (mSeq (mAsg 6 (mTup (mArgs [(mVar 2), (mVar 3), (mTup (mArgs [])), (mTup (mArgs [(mTup (mArgs [(mC (.str "in")), (mC (.int 0))])), (mTup (mArgs [(mC (.str "is")), (mC (.int 0))]))]))]))) (mSeq (mAsg 7 (mTup (mArgs [(mVar 2), (mOp2 opMul (mBor 3) (mC (.int 2))), (mTup (mArgs [])), (mTup (mArgs [(mTup (mArgs [(mC (.str "in")), (mC (.int 1))]))]))]))) (mSeq (mAsg 8 (mTup (mArgs [(mVar 2), (mTup (mArgs [])), (mTup (mArgs [])), (mTup (mArgs [(mTup (mArgs [(mC (.str "is")), (mC (.int 0))]))]))]))) (mSeq (mFor (mSeqI (mTup (mArgs [(mVar 7), (mVar 8)]))) (.name 9) (mIf (mBool (mOp2 opNe (mSh [4, 9] (mTried (mAuto (mCall 16 (mArgs [(mVar 4), (mVar 9)]))))) (mTup (mArgs [(mC (.str "Unlike"))])))) (mRet (mC (.bl false))) mSkip)) (mSeq (mIf (mBool (mOp2 opNe (mSh [4, 6] (mTried (mAuto (mCall 16 (mArgs [(mVar 6), (mVar 4)]))))) (mTup (mArgs [(mC (.str "Unlike"))])))) (mRet (mC (.bl false))) mSkip) (mSeq (mIf (mBool (mOp2 opNe (mSh [8] (mTried (mAuto (mCall 18 (mArgs [(mVar 8), (mC (.int 0))]))))) (mTup (mArgs [(mC (.str "Unlike"))])))) (mRet (mC (.bl false))) mSkip) (mSeq (mIf (mBool (mOp2 opNe (mSh [4, 5] (mTried (mAuto (mCall 16 (mArgs [(mVar 4), (mVar 5)]))))) (mTup (mArgs [(mC (.str "Unlike"))])))) (mRet (mC (.bl false))) mSkip) (mSeq (mIf (mBool (mOp2 opNe (mSh [4, 5] (mTried (mAuto (mCall 17 (mArgs [(mVar 5), (mVar 4)]))))) (mTup (mArgs [(mC (.str "Unlike"))])))) (mRet (mC (.bl false))) mSkip) (mSeq (mIf (mBool (mOp2 opNe (mSh [7, 4] (mTried (mAuto (mCall 17 (mArgs [(mVar 7), (mVar 4)]))))) (mTup (mArgs [(mC (.str "TooMany")), (mC (.int 2))])))) (mRet (mC (.bl false))) mSkip) (mSeq (mIf (mBool (mOp2 opNe (mSh [7, 5] (mTried (mAuto (mCall 17 (mArgs [(mVar 7), (mVar 5)]))))) (mTup (mArgs [(mC (.str "Unlike"))])))) (mRet (mC (.bl false))) mSkip) (mSeq (mIf (mBool (mOp2 opNe (mSh [4, 6] (mTried (mAuto (mCall 17 (mArgs [(mVar 4), (mVar 6)]))))) (mTup (mArgs [(mC (.str "TooMany")), (mC (.int 2))])))) (mRet (mC (.bl false))) mSkip) (mSeq (mFor (mSeqI (mLst (mArgs [(mOp1 opNeg (mC (.int 1))), (mC (.int 2)), (mC (.bl true)), (mC .non), (mC (.str "0")), (mTup (mArgs [(mC (.int 0))]))]))) (.name 10) (mIf (mBool (mOp2 opNe (mSh [10, 4] (mTried (mAuto (mCall 18 (mArgs [(mVar 4), (mVar 10)]))))) (mTup (mArgs [(mC (.str "NoFirst"))])))) (mRet (mC (.bl false))) mSkip)) (mRet (mAuto (mCall 25 (mArgs [(mVar 2), (mVar 3)]))))))))))))))))))
def okT : Out Fl → Bool
  | .ok (.ret (.val (.bl true))) _ => true
  | _ => false
theorem okT_is {o : Out Fl} (h : okT o = true) : ∃ s, o = .ok (.ret (.val (.bl true))) s := by
  unfold okT at h
  split at h
  · exact ⟨_, rfl⟩
  · cases h
abbrev ρC (ns : List Int) (b : Nat) (c : Int) : List (Option DL.Slot) := [some (.val (.scr ns)), some (.val (.bag b)), some (.val (.int c)), none, none, none, none, none, none, none, none]
end KK
end

section
set_option Elab.async false
set_option linter.all false
set_option maxRecDepth 100000
set_option maxHeartbeats 8000000
namespace KK
open PySem DL
theorem rest1 (ns : List Int) (b : Nat) (S : Store) : okT (restM (Phi dfm 15) ⟨ρC ns b 1, S⟩) = true := by kernel_rfl
theorem rest2 (ns : List Int) (b : Nat) (S : Store) : okT (restM (Phi dfm 15) ⟨ρC ns b 2, S⟩) = true := by kernel_rfl
theorem rest3 (ns : List Int) (b : Nat) (S : Store) : okT (restM (Phi dfm 15) ⟨ρC ns b 3, S⟩) = true := by kernel_rfl
theorem rest4 (ns : List Int) (b : Nat) (S : Store) : okT (restM (Phi dfm 15) ⟨ρC ns b 4, S⟩) = true := by kernel_rfl
theorem rest5 (ns : List Int) (b : Nat) (S : Store) : okT (restM (Phi dfm 15) ⟨ρC ns b 5, S⟩) = true := by kernel_rfl
theorem rest6 (ns : List Int) (b : Nat) (S : Store) : okT (restM (Phi dfm 15) ⟨ρC ns b 6, S⟩) = true := by kernel_rfl
theorem rest7 (ns : List Int) (b : Nat) (S : Store) : okT (restM (Phi dfm 15) ⟨ρC ns b 7, S⟩) = true := by kernel_rfl
theorem rest8 (ns : List Int) (b : Nat) (S : Store) : okT (restM (Phi dfm 15) ⟨ρC ns b 8, S⟩) = true := by kernel_rfl
end KK
end

section
set_option Elab.async false
set_option linter.all false
set_option maxRecDepth 100000
set_option maxHeartbeats 8000000
namespace KK
open PySem DL
theorem rest_all {c : Int} (h : 1 ≤ c) (h' : c ≤ 8) (ns : List Int) (b : Nat) (S : Store) : okT (restM (Phi df 15) ⟨ρC ns b c, S⟩) = true := by
  rw [df_dfm]
  have hc : c = 1 ∨ c = 2 ∨ c = 3 ∨ c = 4 ∨ c = 5 ∨ c = 6 ∨ c = 7 ∨ c = 8 := by omega
  rcases hc with e | e | e | e | e | e | e | e <;> subst e
  · exact rest1 ns b S
  · exact rest2 ns b S
  · exact rest3 ns b S
  · exact rest4 ns b S
  · exact rest5 ns b S
  · exact rest6 ns b S
  · exact rest7 ns b S
  · exact rest8 ns b S
theorem law_eq : m_law = mSeq (mAsg 1 (mIxA (mAuto (mCall 21 (mArgs [(mVar 0), (mC (.int 1))]))) (mC (.int 0)))) (mSeq (mAsg 2 (mOp2 opAdd (mC (.int 1)) (mAuto (mCall 20 (mArgs [(mVar 1), (mC (.int 8))]))))) restM) := rfl
theorem law_true (ns : List Int) : ∃ S, Phi df 16 26 [.scr ns] [] = .ok (.val (.bl true)) S := by
  obtain ⟨S1, bs, t1, h1, h0, h2, h3⟩ := s_bagsN (n := 13) (mo := 1) (ns := ns) (by omega)
  match bs, t1, h1, h0, h3 with
  | b :: r, t1, h1, h0, h3 =>
    obtain ⟨S2, v, t2, v0, v1, n2⟩ := s_take (n := 14) h3 (by omega) (h1 b (List.mem_cons_self ..)) (k := 8) (by omega) (by omega)
    have ok := rest_all (c := 1 + v) (by omega) (by omega) ns b S2
    obtain ⟨s, e⟩ := okT_is ok
    refine ⟨s.S, ?_⟩
    rw [phi_eq (n := 15) d_law (id rfl), law_eq]
    have t1' : Phi df 15 21 [.scr ns, .int 1] [] = .ok (.own (.lst (D.bag b :: r.map D.bag))) S1 := t1
    have t2' : Phi df 15 20 [.bag b, .int 8] S1 = .ok (.val (.int v)) S2 := t2
    have ix : opIxA S1 (.lst (D.bag b :: r.map D.bag)) (.int 0) = some (.val (.bag b)) := by simp [opIxA, opIxS, opIx, at0]
    have e' : restM (Phi df 15) ⟨[some (.val (.scr ns)), some (.val (.bag b)), some (.val (.int (1 + v))), none, none, none, none, none, none, none, none], S2⟩ = .ok (.ret (.val (.bl true))) s := e
    simp [kO1, kO0, e_opd, k_opd, k_opd0, e_frz, k_frz, k_frzo, k_frz0, e_c, e_var, k_var, k_varo, e_bor, k_bor, k_boro, e_args0, e_args, k_args, k_args2, e_looks0, e_looks, k_looks, e_rs0, e_rs, k_rs, k_rs2, e_tup, e_lst, k_tup_0, k_lst_0, k_tup_1, k_lst_1, k_tup_2, k_lst_2, k_tup_3, k_lst_3, k_tup_4, k_lst_4, k_tup_5, k_lst_5, k_tup_6, k_lst_6, e_call, k_call, k_call2, k_call20, e_auto, k_autob, k_autoi, k_auton, k_autot, k_autoo, k_auto0, k_bool, e_bool, e_not, k_not, e_and, k_andt, k_andf, e_or, k_ort, k_orf, e_andV, k_andVt, k_andVf, e_notV, k_notV, e_ifE, k_ifEt, k_ifEf, e_op1, k_op1, e_op2, k_op2, k_op2b, e_ix, k_ix, k_ixb, e_len, k_len, e_b, k_b, e_chain, k_chain, k_chain2, k_chain3, e_sl, k_sl, k_sl2, k_sl3, e_part0, e_part, k_part, e_seq, k_seqn, k_seqr, k_seq0, e_skip, e_no, e_if, k_ift, k_iff, e_asg, k_asg, k_asgo, e_ret, k_ret, k_reto, e_retV, k_retV, k_retVo, e_drop, k_drop, e_par, k_parn, k_new, parR, slotOf, e_asgT, k_asgTn, bindT, bindTs, e_seqI, k_seqIt, k_seqIl, e_enum, k_enumt, k_enuml, e_zip, k_ziptt, k_ziplt, k_ziptl, k_zipll, e_for, k_for, R.d, runF, outF, ρ0, t1', Cont.d, ix, t2', opAdd_i, e']
end KK
end

section
theorem PySem.Challenge.cw_steerloom_k14_what_can_not_be_put_togeth_holds : PySem.Challenge.rw_steerloom_k14_what_can_not_be_put_togeth.Holds := by
  exact holds_of fun ns _ => KK.law_true ns
end

