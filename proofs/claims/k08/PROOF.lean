import PyProof.Rows.All
import Wide.All
import OpenK.AllK
import Wide.FinOn
import HandS.ForMost
import HandS.Style
import HandS.IsInst
import HandS.Conv
import HandS.More
import HandS.Codes
import HandS.Steps
import HandS.Set
import HandS.Strs
import HandS.SetFor
import KE.KDictZip
import KE.GoesMore
import KE.GoesEnum
import HandS.ListItems
import HandS.Zip
import PyProof.EnumMake
import HandS.TupAny
import KE.SortCalls
import KE.SortData
import KE.KItemsList
import KE.KDictKeyed
import KE.KeyNested
import HandS.SetKeys
import PySem.Challenge.RW_bindnear_k08_whole_binders
set_option Elab.async false
set_option linter.all false
set_option maxRecDepth 100000
set_option maxHeartbeats 8000000
namespace BN
open PySem L2 PyProof.Rows

/-! ### frames: what a call may change -/
abbrev CP := Addr → HO → Prop
structure Fr (C : CP) (H H' : Hp) : Prop where
  keep : ∀ a o, H a = some o → ¬ (C a o ∧ Mut (some o)) → H' a = some o
  free : ∀ a, H' a = none → H a = none
def c0 : CP := fun _ _ => False
theorem Fr.refl {C : CP} (H : Hp) : Fr C H H := ⟨fun _ _ h _ => h, fun _ h => h⟩
theorem Fr.trans {C : CP} {H H1 H2 : Hp} (a : Fr C H H1) (b : Fr C H1 H2) : Fr C H H2 :=
  ⟨fun x o h n => b.keep x o (a.keep x o h n) n, fun x h => a.free x (b.free x h)⟩
theorem Fr.mono {C C' : CP} {H H' : Hp} (a : Fr C H H') (h : ∀ a o, C a o → C' a o) : Fr C' H H' :=
  ⟨fun x o e n => a.keep x o e fun z => n ⟨h _ _ z.1, z.2⟩, a.free⟩
theorem Fr.of0 {C : CP} {H H' : Hp} (a : Fr c0 H H') : Fr C H H' := a.mono fun _ _ z => z.elim
theorem Fr.new {C : CP} {H : Hp} {p : Addr} {o : HO} (hp : H p = none) : Fr C H (upd H p o) :=
  ⟨fun a u e _ => by rw [upd_ne (ne_of_none e hp)]; exact e, fun a h => by
    by_cases e : a = p
    · subst e; exact hp
    · rw [upd_ne e] at h; exact h⟩
theorem Fr.set {C : CP} {H : Hp} {p : Addr} {o o' : HO} (hp : H p = some o) (hc : C p o) (hm : Mut (some o)) : Fr C H (upd H p o') :=
  ⟨fun a u e n => by
    by_cases q : a = p
    · subst q; rw [hp] at e; cases e; exact absurd ⟨hc, hm⟩ n
    · rw [upd_ne q]; exact e, fun a h => by
    by_cases q : a = p
    · subst q; rw [upd_same] at h; cases h
    · rw [upd_ne q] at h; exact h⟩
/-- what is new ahead may be changed freely -/
theorem Fr.fresh {C : CP} {H H' : Hp} {p : Addr} {o : HO} (e : Fr C H H') (hp : H p = none) : Fr C H (upd H' p o) :=
  ⟨fun a u h n => by rw [upd_ne (ne_of_none h hp)]; exact e.keep a u h n, fun a h => by
    by_cases q : a = p
    · subst q; exact hp
    · rw [upd_ne q] at h; exact e.free a h⟩
theorem Fr.tup {C : CP} {H H' : Hp} {a : Addr} {xs : List V} (f : Fr C H H') (h : H a = some (.tup xs)) : H' a = some (.tup xs) := f.keep a _ h fun z => z.2
theorem Fr.frz {C : CP} {H H' : Hp} {a : Addr} {o : Obj} {u : HO} (f : Fr C H H') (h : H a = some (.frz o u)) : H' a = some (.frz o u) := f.keep a _ h fun z => z.2
theorem Fr.sqT {C : CP} {K : PySem.W.Frag} {H H' : Hp} {a : Addr} {xs : List V} (f : Fr C H H') (h : SqT K H a xs) : SqT K H' a xs := by
  rcases h with (h | ⟨o, h⟩) | h
  · exact .inl (.inl (f.tup h))
  · exact .inl (.inr ⟨o, f.frz h⟩)
  · exact .inr h
theorem Fr.sqL {C : CP} {K : PySem.W.Frag} {H H' : Hp} {a : Addr} {xs : List V} (f : Fr C H H') (n : ∀ o, ¬ C a o) (h : SqL K H a xs) : SqL K H' a xs := by
  rcases h with (h | ⟨o, h⟩) | h
  · exact .inl (.inl (f.keep a _ h fun z => n _ z.1))
  · exact .inl (.inr ⟨o, f.frz h⟩)
  · exact .inr h
theorem Fr.at {C : CP} {H H' : Hp} {a : Addr} {o : HO} (f : Fr C H H') (h : H a = some o) (n : ¬ C a o) : H' a = some o := f.keep a o h fun z => n z.1
theorem Fr.same {H H' : Hp} (f : Fr c0 H H') : Same H H' := fun a o h => f.keep a o h fun z => z.1

/-! ### data of tuples alone -/
mutual
def tupD : PyData → Bool
  | .list _ => false
  | .dict _ => false
  | .tuple ds => tupDs ds
  | _ => true
def tupDs : List PyData → Bool
  | [] => true
  | d :: r => tupD d && tupDs r
end
section
variable {C : CP} {K : PySem.W.Frag} {H H' : Hp}
mutual
theorem Dp.fr (f : Fr C H H') : ∀ (d : PyData) (v : V), tupD d = true → Dp K H v d → Dp K H' v d
  | .none, _, _, h => by cases h; exact .non
  | .bool b, _, _, h => by cases h; exact .bl b
  | .int i, _, _, h => by cases h; exact .int i
  | .str x, _, _, h => by cases h; exact .str x
  | .list ds, _, t, _ => by simp [tupD] at t
  | .dict ds, _, t, _ => by simp [tupD] at t
  | .tuple ds, _, t, h => by
    cases h with
    | tup hs ha => exact .tup (f.sqT hs) (Dp.frs f ds _ (by simpa [tupD] using t) ha)
theorem Dp.frs (f : Fr C H H') : ∀ (ds : List PyData) (vs : List V), tupDs ds = true → DpAll K H vs ds → DpAll K H' vs ds
  | [], _, _, h => by cases h; exact .nil
  | d :: ds, _, t, h => by
    have t' : tupD d = true ∧ tupDs ds = true := by simpa [tupDs] using t
    cases h with
    | cons h1 h2 => exact .cons (Dp.fr f d _ t'.1 h1) (Dp.frs f ds _ t'.2 h2)
end
mutual
theorem Dp.sm (f : Fr c0 H H') : ∀ (d : PyData) (v : V), Dp K H v d → Dp K H' v d
  | .none, _, h => by cases h; exact .non
  | .bool b, _, h => by cases h; exact .bl b
  | .int i, _, h => by cases h; exact .int i
  | .str x, _, h => by cases h; exact .str x
  | .list ds, _, h => by
    cases h with
    | lst hs ha => exact .lst (f.sqL (fun _ z => z) hs) (Dp.sms f ds _ ha)
  | .dict ds, _, h => by cases h
  | .tuple ds, _, h => by
    cases h with
    | tup hs ha => exact .tup (f.sqT hs) (Dp.sms f ds _ ha)
theorem Dp.sms (f : Fr c0 H H') : ∀ (ds : List PyData) (vs : List V), DpAll K H vs ds → DpAll K H' vs ds
  | [], _, h => by cases h; exact .nil
  | d :: ds, _, h => by
    cases h with
    | cons h1 h2 => exact .cons (Dp.sm f d _ h1) (Dp.sms f ds _ h2)
end
end
end BN
namespace L2
open PySem PyProof.Rows
section
variable {K : PySem.W.Frag} {H : Hp}
theorem DpAll.len : ∀ {vs : List V} {ds : List PyData}, DpAll K H vs ds → vs.length = ds.length
  | _, _, .nil => rfl
  | _, _, .cons _ t => by rw [List.length_cons, List.length_cons, DpAll.len t]
theorem DpAll.get : ∀ {vs : List V} {ds : List PyData} {i : Nat} {d : PyData}, DpAll K H vs ds → ds[i]? = some d → ∃ v, vs[i]? = some v ∧ Dp K H v d
  | _, _, _, _, .nil, e => by simp at e
  | _, _, 0, _, .cons r _, e => by simp at e; subst e; exact ⟨_, rfl, r⟩
  | _, _, i + 1, d, .cons _ t, e => by
    obtain ⟨v, h1, h2⟩ := DpAll.get (i := i) (d := d) t (by simpa using e)
    exact ⟨v, by simpa using h1, h2⟩
theorem DpAll.getV : ∀ {vs : List V} {ds : List PyData} {i : Nat} {v : V}, DpAll K H vs ds → vs[i]? = some v → ∃ d, ds[i]? = some d ∧ Dp K H v d
  | _, _, _, _, .nil, e => by simp at e
  | _, _, 0, _, .cons r _, e => by simp at e; subst e; exact ⟨_, rfl, r⟩
  | _, _, i + 1, v, .cons _ t, e => by
    obtain ⟨d, h1, h2⟩ := DpAll.getV (i := i) (v := v) t (by simpa using e)
    exact ⟨d, by simpa using h1, h2⟩
theorem DpAll.append : ∀ {vs ws : List V} {ds es : List PyData}, DpAll K H vs ds → DpAll K H ws es → DpAll K H (vs ++ ws) (ds ++ es)
  | _, _, _, _, .nil, h => h
  | _, _, _, _, .cons r t, h => .cons r (DpAll.append t h)
theorem DpAll.take : ∀ {vs : List V} {ds : List PyData} (n : Nat), DpAll K H vs ds → DpAll K H (vs.take n) (ds.take n)
  | _, _, 0, _ => .nil
  | _, _, _ + 1, .nil => .nil
  | _, _, n + 1, .cons r t => .cons r (DpAll.take n t)
theorem DpAll.drop : ∀ {vs : List V} {ds : List PyData} (n : Nat), DpAll K H vs ds → DpAll K H (vs.drop n) (ds.drop n)
  | _, _, 0, h => h
  | _, _, _ + 1, .nil => .nil
  | _, _, n + 1, .cons r t => DpAll.drop n t
theorem DpAll.strs : ∀ (xs : List Str), DpAll K H (xs.map V.str) (xs.map PyData.str)
  | [] => .nil
  | x :: r => .cons (.str x) (DpAll.strs r)
theorem DpAll.ints : ∀ (xs : List Int), DpAll K H (xs.map V.int) (xs.map PyData.int)
  | [] => .nil
  | x :: r => .cons (.int x) (DpAll.ints r)
theorem DpAll.strs_inv : ∀ {xs : List Str} {vs : List V}, DpAll K H vs (xs.map PyData.str) → vs = xs.map V.str
  | [], _, h => by cases h; rfl
  | x :: r, _, h => by
    cases h with
    | cons h1 h2 => cases h1; rw [DpAll.strs_inv h2]; rfl
theorem DpAll.ints_inv : ∀ {xs : List Int} {vs : List V}, DpAll K H vs (xs.map PyData.int) → vs = xs.map V.int
  | [], _, h => by cases h; rfl
  | x :: r, _, h => by
    cases h with
    | cons h1 h2 => cases h1; rw [DpAll.ints_inv h2]; rfl
theorem Dp.tup_inv {v : V} {ds : List PyData} (h : Dp K H v (.tuple ds)) : ∃ a xs, v = .ref a ∧ SqT K H a xs ∧ DpAll K H xs ds := by
  cases h with
  | tup hs ha => exact ⟨_, _, rfl, hs, ha⟩
theorem Dp.lst_inv {v : V} {ds : List PyData} (h : Dp K H v (.list ds)) : ∃ a xs, v = .ref a ∧ SqL K H a xs ∧ DpAll K H xs ds := by
  cases h with
  | lst hs ha => exact ⟨_, _, rfl, hs, ha⟩
theorem Dp.str_inv {v : V} {x : Str} (h : Dp K H v (.str x)) : v = .str x := by cases h; rfl
theorem Dp.int_inv {v : V} {x : Int} (h : Dp K H v (.int x)) : v = .int x := by cases h; rfl
end
end L2
namespace BN
open PySem L2 PyProof.Rows
theorem tupDs_all : ∀ {ds : List PyData}, (∀ d ∈ ds, tupD d = true) → tupDs ds = true
  | [], _ => by simp [tupDs]
  | d :: r, h => by
    have h1 := h d (List.mem_cons_self ..)
    have h2 : tupDs r = true := tupDs_all fun x hx => h x (List.mem_cons_of_mem _ hx)
    simp [tupDs, h1, h2]
theorem tupDs_str (xs : List Str) : tupDs (xs.map PyData.str) = true := tupDs_all fun d hd => by
  obtain ⟨x, _, rfl⟩ := List.mem_map.mp hd
  simp [tupD]

/-! ### equality of lists of plain things -/
theorem eqv_lists_nil {ds : List PyData} : PyData.eqv (.list ds) (.list []) = ds.isEmpty := by
  cases ds <;> simp [PyData.eqv, PyData.eqvAll]
end BN
namespace BN
open PySem L2
/-! ### programs -/
mutual
inductive Part where
  | num (n : Int)
  | name (x : Str)
  | add (a b : Part)
  | less (a b : Part)
  | ite (c a b : Part)
  | say (a : Part)
  | lt (x : Str) (a b : Part)
  | fn (f : Str) (ps : List Str) (body rest : Part)
  | call (f : Str) (as : Parts)
inductive Parts where
  | nil
  | cons (p : Part) (r : Parts)
end
def Parts.len : Parts → Nat
  | .nil => 0
  | .cons _ r => r.len + 1
def Parts.list : Parts → List Part
  | .nil => []
  | .cons p r => p :: r.list
theorem Parts.list_len : ∀ as : Parts, as.list.length = as.len
  | .nil => rfl
  | .cons _ r => by rw [Parts.list, List.length_cons, Parts.list_len r]; rfl
def Parts.of : List Part → Parts
  | [] => .nil
  | p :: r => .cons p (Parts.of r)
theorem Parts.list_of : ∀ l : List Part, (Parts.of l).list = l
  | [] => rfl
  | p :: r => by rw [Parts.of, Parts.list, Parts.list_of r]
theorem Parts.of_list : ∀ as : Parts, Parts.of as.list = as
  | .nil => rfl
  | .cons p r => by rw [Parts.list, Parts.of, Parts.of_list r]
theorem Parts.len_of (l : List Part) : (Parts.of l).len = l.length := by rw [← Parts.list_len, Parts.list_of]
mutual
def Part.enc : Part → PyData
  | .num n => .tuple [.str "num", .int n]
  | .name x => .tuple [.str "name", .str x]
  | .add a b => .tuple [.str "add", a.enc, b.enc]
  | .less a b => .tuple [.str "less", a.enc, b.enc]
  | .ite c a b => .tuple [.str "if", c.enc, a.enc, b.enc]
  | .say a => .tuple [.str "say", a.enc]
  | .lt x a b => .tuple [.str "let", .str x, a.enc, b.enc]
  | .fn f ps b r => .tuple [.str "fun", .str f, .tuple (ps.map .str), b.enc, r.enc]
  | .call f as => .tuple [.str "call", .str f, .tuple as.encs]
def Parts.encs : Parts → List PyData
  | .nil => []
  | .cons p r => p.enc :: r.encs
end
theorem Parts.encs_list : ∀ as : Parts, as.encs = as.list.map Part.enc
  | .nil => by simp [Parts.encs, Parts.list]
  | .cons p r => by simp [Parts.encs, Parts.list, Parts.encs_list r]
theorem Parts.encs_of (l : List Part) : (Parts.of l).encs = l.map Part.enc := by rw [Parts.encs_list, Parts.list_of]
theorem Parts.encs_len (as : Parts) : as.encs.length = as.len := by rw [Parts.encs_list, List.length_map, Parts.list_len]
mutual
theorem tup_enc : ∀ p : Part, tupD p.enc = true
  | .num n => by simp [Part.enc, tupD, tupDs]
  | .name x => by simp [Part.enc, tupD, tupDs]
  | .add a b => by simp [Part.enc, tupD, tupDs, tup_enc a, tup_enc b]
  | .less a b => by simp [Part.enc, tupD, tupDs, tup_enc a, tup_enc b]
  | .ite c a b => by simp [Part.enc, tupD, tupDs, tup_enc a, tup_enc b, tup_enc c]
  | .say a => by simp [Part.enc, tupD, tupDs, tup_enc a]
  | .lt x a b => by simp [Part.enc, tupD, tupDs, tup_enc a, tup_enc b]
  | .fn f ps b r => by simp [Part.enc, tupD, tupDs, tup_enc b, tup_enc r, tupDs_str]
  | .call f as => by simp [Part.enc, tupD, tupDs, tup_encs as]
theorem tup_encs : ∀ as : Parts, tupDs as.encs = true
  | .nil => by simp [Parts.encs, tupDs]
  | .cons p r => by simp [Parts.encs, tupDs, tup_enc p, tup_encs r]
end
mutual
def Part.size : Part → Nat
  | .num _ => 1
  | .name _ => 1
  | .add a b => 1 + (a.size + b.size)
  | .less a b => 1 + (a.size + b.size)
  | .ite c a b => 1 + (c.size + (a.size + b.size))
  | .say a => 1 + a.size
  | .lt _ a b => 1 + (a.size + b.size)
  | .fn _ _ b r => 1 + (b.size + r.size)
  | .call _ as => 1 + as.size
def Parts.size : Parts → Nat
  | .nil => 0
  | .cons p r => p.size + r.size
end
mutual
def Part.dep : Part → Nat
  | .num _ => 1
  | .name _ => 1
  | .add a b => 1 + max a.dep b.dep
  | .less a b => 1 + max a.dep b.dep
  | .ite c a b => 1 + max c.dep (max a.dep b.dep)
  | .say a => 1 + a.dep
  | .lt _ a b => 1 + max a.dep b.dep
  | .fn _ _ b r => 1 + max b.dep r.dep
  | .call _ as => 1 + as.dep
def Parts.dep : Parts → Nat
  | .nil => 0
  | .cons p r => max p.dep r.dep
end
theorem size_pos (p : Part) : 1 ≤ p.size := by cases p <;> simp [Part.size] <;> omega
theorem dep_pos (p : Part) : 1 ≤ p.dep := by cases p <;> simp [Part.dep] <;> omega
/-- the parts that stand straight in a part -/
def Part.inner : Part → List Part
  | .num _ => []
  | .name _ => []
  | .add a b => [a, b]
  | .less a b => [a, b]
  | .ite c a b => [c, a, b]
  | .say a => [a]
  | .lt _ a b => [a, b]
  | .fn _ _ b r => [b, r]
  | .call _ as => as.list
def sizesL : List Part → Nat
  | [] => 0
  | p :: r => p.size + sizesL r
theorem sizesL_list : ∀ as : Parts, sizesL as.list = as.size
  | .nil => rfl
  | .cons p r => by rw [Parts.list, sizesL, Parts.size, sizesL_list r]
theorem size_inner (p : Part) : p.size = 1 + sizesL p.inner := by
  cases p <;> simp [Part.size, Part.inner, sizesL, sizesL_list]
theorem dep_list : ∀ (as : Parts) (q : Part), q ∈ as.list → q.dep ≤ as.dep
  | .nil, q, h => by simp [Parts.list] at h
  | .cons p r, q, h => by
    have h' : q = p ∨ q ∈ r.list := by simpa [Parts.list] using h
    have e : (Parts.cons p r).dep = max p.dep r.dep := by simp [Parts.dep]
    rcases h' with rfl | h'
    · omega
    · have := dep_list r q h'; omega
theorem dep_inner (p q : Part) (h : q ∈ p.inner) : q.dep + 1 ≤ p.dep := by
  cases p with
  | num n => simp [Part.inner] at h
  | name x => simp [Part.inner] at h
  | add a b => simp [Part.inner] at h; rcases h with rfl | rfl <;> simp [Part.dep] <;> omega
  | less a b => simp [Part.inner] at h; rcases h with rfl | rfl <;> simp [Part.dep] <;> omega
  | ite c a b => simp [Part.inner] at h; rcases h with rfl | rfl | rfl <;> simp [Part.dep] <;> omega
  | say a => simp [Part.inner] at h; subst h; simp [Part.dep]; omega
  | lt x a b => simp [Part.inner] at h; rcases h with rfl | rfl <;> simp [Part.dep] <;> omega
  | fn f ps b r => simp [Part.inner] at h; rcases h with rfl | rfl <;> simp [Part.dep] <;> omega
  | call f as => have := dep_list as q (by simpa [Part.inner] using h); simp [Part.dep]; omega

/-! ### names -/
def wordB (x : Str) : Bool := decide (1 ≤ x.length) && decide (x.length ≤ 4) && x.cps.all (fun c => decide (97 ≤ c) && decide (c ≤ 122))
abbrev FE0 := Str → Option Nat
def putN {α : Type} (fs : Str → Option α) (f : Str) (n : α) : Str → Option α := fun g => if g = f then some n else fs g
mutual
def Part.ok : Part → List Str → FE0 → Prop
  | .num n, _, _ => 0 ≤ n ∧ n ≤ 99
  | .name x, ns, _ => x ∈ ns
  | .add a b, ns, fs => a.ok ns fs ∧ b.ok ns fs
  | .less a b, ns, fs => a.ok ns fs ∧ b.ok ns fs
  | .ite c a b, ns, fs => c.ok ns fs ∧ a.ok ns fs ∧ b.ok ns fs
  | .say a, ns, fs => a.ok ns fs
  | .lt x a b, ns, fs => wordB x = true ∧ a.ok ns fs ∧ b.ok (ns ++ [x]) fs
  | .fn f ps b r, ns, fs => wordB f = true ∧ ps.length ≤ 12 ∧ ps.Nodup ∧ (∀ x ∈ ps, wordB x = true) ∧ b.ok (ns ++ ps) fs ∧ r.ok ns (putN fs f ps.length)
  | .call f as, ns, fs => fs f = some as.len ∧ as.ok ns fs
def Parts.ok : Parts → List Str → FE0 → Prop
  | .nil, _, _ => True
  | .cons p r, ns, fs => p.ok ns fs ∧ r.ok ns fs
end
/-! ### programs as the law draws them -/
inductive Leaf (names : List Str) : Part → Prop
  | num {n : Int} : 0 ≤ n → n ≤ 99 → Leaf names (.num n)
  | name {x : Str} : x ∈ names → Leaf names (.name x)
def known (funs : List (Str × Nat)) (f : Str) (n : Nat) : List (Str × Nat) := funs.filter (fun e => !decide (e.1 = f)) ++ [(f, n)]
inductive Gen (ws : List Str) : Int → List Str → List (Str × Nat) → Part → Prop
  | leaf {d names funs p} : Leaf names p → Gen ws d names funs p
  | fn {d names funs f ps b r} : 0 < d → f ∈ ws → ps.Nodup → (∀ x ∈ ps, x ∈ ws) → ps.length ≤ 4 → Gen ws (d - 1) (names ++ ps) funs b → Gen ws (d - 1) names (known funs f ps.length) r → Gen ws d names funs (.fn f ps b r)
  | fnc {d names funs f ps b r w l} {as : List Part} : 0 < d → f ∈ ws → ps.Nodup → (∀ x ∈ ps, x ∈ ws) → ps.length ≤ 4 → Gen ws (d - 1) (names ++ ps) funs b → Gen ws (d - 1) names (known funs f ps.length) r →
      w ∈ ws → Leaf names l → (∀ a ∈ as, Leaf names a) → as.length = ps.length → Gen ws d names funs (.fn f ps b (.add r (.lt w l (.call f (Parts.of as)))))
  | lt {d names funs x a b} : 0 < d → x ∈ ws → Gen ws (d - 2) names funs a → Gen ws (d - 1) (names ++ [x]) funs b → Gen ws d names funs (.lt x a b)
  | call {d names funs f} {as : List Part} : 0 < d → (f, as.length) ∈ funs → (∀ a ∈ as, Gen ws (d - 2) names funs a) → Gen ws d names funs (.call f (Parts.of as))
  | say {d names funs a} : 0 < d → Gen ws (d - 1) names funs a → Gen ws d names funs (.say a)
  | ite {d names funs c a l} : 0 < d → Gen ws (d - 2) names funs c → Gen ws (d - 2) names funs a → Leaf names l → Gen ws d names funs (.ite c a l)
  | add {d names funs a b} : 0 < d → Gen ws (d - 2) names funs a → Gen ws (d - 2) names funs b → Gen ws d names funs (.add a b)
  | less {d names funs a b} : 0 < d → Gen ws (d - 2) names funs a → Gen ws (d - 2) names funs b → Gen ws d names funs (.less a b)
def lk (funs : List (Str × Nat)) : FE0 := fun f => funs.lookup f
theorem lookup_mem {α : Type} : ∀ {l : List (Str × α)} {f : Str} {n : α}, (l.map (·.1)).Nodup → (f, n) ∈ l → l.lookup f = some n
  | (g, m) :: r, f, n, hd, h => by
    have hd' : ¬ g ∈ r.map (·.1) ∧ (r.map (·.1)).Nodup := List.nodup_cons.mp hd
    rcases List.mem_cons.mp h with e | h
    · cases e; simp [List.lookup]
    · have hne : f ≠ g := fun e => hd'.1 (by rw [← e]; exact List.mem_map.mpr ⟨(f, n), h, rfl⟩)
      have : (f == g) = false := by simpa using hne
      rw [List.lookup, this]
      exact lookup_mem hd'.2 h
theorem lookup_app {α : Type} : ∀ (l : List (Str × α)) (m : List (Str × α)) (f : Str), (l ++ m).lookup f = (l.lookup f).or (m.lookup f)
  | [], m, f => by simp [List.lookup]
  | (g, n) :: r, m, f => by
    by_cases e : f = g
    · subst e; simp [List.lookup]
    · have q : (f == g) = false := by simpa using e
      simp only [List.cons_append, List.lookup, q]
      exact lookup_app r m f
theorem lookup_filt {α : Type} (f : Str) : ∀ (l : List (Str × α)) (g : Str), (l.filter (fun e => !decide (e.1 = f))).lookup g = if g = f then none else l.lookup g
  | [], g => by simp [List.lookup]
  | (h, n) :: r, g => by
    by_cases e : h = f
    · subst e
      rw [List.filter_cons_of_neg (by simp), lookup_filt h r g]
      by_cases q : g = h
      · simp [q]
      · have q' : (g == h) = false := by simpa using q
        simp [q, List.lookup, q']
    · rw [List.filter_cons_of_pos (by simp [e])]
      by_cases q : g = h
      · subst q; simp [List.lookup, e]
      · have q' : (g == h) = false := by simpa using q
        simp only [List.lookup, q']
        exact lookup_filt f r g
theorem lk_known (funs : List (Str × Nat)) (f : Str) (n : Nat) : lk (known funs f n) = putN (lk funs) f n := by
  funext g
  unfold lk known putN
  rw [lookup_app, lookup_filt]
  by_cases e : g = f
  · subst e; simp [List.lookup]
  · have q : (g == f) = false := by simpa using e
    simp [e, List.lookup, q]
theorem known_nodup {funs : List (Str × Nat)} {f : Str} {n : Nat} (h : (funs.map (·.1)).Nodup) : ((known funs f n).map (·.1)).Nodup := by
  unfold known
  rw [List.map_append]
  refine List.nodup_append.mpr ⟨?_, by simp, ?_⟩
  · exact (List.Sublist.map _ List.filter_sublist).nodup h
  · intro a ha b hb e
    obtain ⟨x, hx, rfl⟩ := List.mem_map.mp ha
    have : (x.1 ≠ f) := by simpa using (List.mem_filter.mp hx).2
    simp at hb
    exact this (e.trans hb)
theorem known_len (funs : List (Str × Nat)) (f : Str) (n : Nat) : (known funs f n).length ≤ funs.length + 1 := by
  unfold known
  have := List.length_filter_le (fun e : Str × Nat => !decide (e.1 = f)) funs
  simp only [List.length_append, List.length_singleton]
  omega
theorem leaf_ok {names p} (h : Leaf names p) (fs : FE0) : p.ok names fs := by
  cases h with
  | num h0 h1 => simp only [Part.ok]; exact ⟨h0, h1⟩
  | name h => simpa only [Part.ok] using h
theorem parts_ok : ∀ {l : List Part} {names : List Str} {fs : FE0}, (∀ a ∈ l, a.ok names fs) → (Parts.of l).ok names fs
  | [], _, _, _ => by simp [Parts.of, Parts.ok]
  | p :: r, _, _, h => by
    simp only [Parts.of, Parts.ok]
    exact ⟨h p (by simp), parts_ok fun a ha => h a (List.mem_cons_of_mem _ ha)⟩
theorem gen_ok {ws : List Str} (hw : ∀ x ∈ ws, wordB x = true) {d names funs p} (h : Gen ws d names funs p) : (funs.map (·.1)).Nodup → p.ok names (lk funs) := by
  induction h with
  | leaf h => intro _; exact leaf_ok h _
  | fn h0 hf hn hp hl _ _ ib ir => intro q; simp only [Part.ok]; exact ⟨hw _ hf, by omega, hn, fun x hx => hw _ (hp x hx), ib q, by rw [← lk_known]; exact ir (known_nodup q)⟩
  | fnc h0 hf hn hp hl _ _ hx hle has hlen ib ir =>
    intro q
    simp only [Part.ok]
    have ir' := ir (known_nodup q)
    rw [lk_known] at ir'
    exact ⟨hw _ hf, by omega, hn, fun x hx => hw _ (hp x hx), ib q, ir', hw _ hx, leaf_ok hle _, by simp [putN, Parts.len_of, hlen], parts_ok fun a ha => leaf_ok (by
      cases has a ha with
      | num h0 h1 => exact .num h0 h1
      | name h => exact .name (List.mem_append_left _ h)) _⟩
  | lt h0 hx _ _ ia ib => intro q; simp only [Part.ok]; exact ⟨hw _ hx, ia q, ib q⟩
  | call h0 hm _ ih => intro q; simp only [Part.ok]; exact ⟨by rw [Parts.len_of]; exact lookup_mem q hm, parts_ok fun a ha => ih a ha q⟩
  | say _ _ ih => intro q; simp only [Part.ok]; exact ih q
  | ite _ _ _ hl ic ia => intro q; simp only [Part.ok]; exact ⟨ic q, ia q, leaf_ok hl _⟩
  | add _ _ _ ia ib => intro q; simp only [Part.ok]; exact ⟨ia q, ib q⟩
  | less _ _ _ ia ib => intro q; simp only [Part.ok]; exact ⟨ia q, ib q⟩
def gdep (d : Int) : Nat := if d ≤ 0 then 1 else 3 + 2 * d.toNat
theorem leaf_dep {names p} (h : Leaf names p) : p.dep = 1 := by cases h <;> simp [Part.dep]
theorem parts_dep : ∀ {l : List Part} {n : Nat}, (∀ a ∈ l, a.dep ≤ n) → (Parts.of l).dep ≤ n
  | [], _, _ => by simp [Parts.of, Parts.dep]
  | p :: r, n, h => by
    have h1 := h p (by simp)
    have h2 : (Parts.of r).dep ≤ n := parts_dep fun a ha => h a (List.mem_cons_of_mem _ ha)
    simp only [Parts.of, Parts.dep]; omega
theorem gdep_le {d : Int} (h : 0 < d) : 1 ≤ gdep (d - 1) ∧ 1 ≤ gdep (d - 2) ∧ gdep (d - 1) + 2 ≤ gdep d ∧ gdep (d - 2) + 2 ≤ gdep d ∧ 5 ≤ gdep d := by
  unfold gdep
  repeat' split
  all_goals omega
theorem gen_dep {ws : List Str} {d names funs p} (h : Gen ws d names funs p) : p.dep ≤ gdep d := by
  have pos : ∀ d, 1 ≤ gdep d := fun d => by unfold gdep; split <;> omega
  induction h with
  | leaf h => rw [leaf_dep h]; exact pos _
  | fn h0 _ _ _ _ _ _ ib ir => have := gdep_le h0; simp only [Part.dep]; omega
  | fnc h0 _ _ _ _ _ _ _ hle has _ ib ir =>
    have := gdep_le h0
    have h1 := leaf_dep hle
    have h2 := parts_dep (n := 1) fun a ha => Nat.le_of_eq (leaf_dep (has a ha))
    simp only [Part.dep]; omega
  | lt h0 _ _ _ ia ib => have := gdep_le h0; simp only [Part.dep]; omega
  | @call d names funs f as h0 _ _ ih =>
    have := gdep_le h0
    have h2 := parts_dep (n := gdep (d - 2)) ih
    simp only [Part.dep]; omega
  | say h0 _ ih => have := gdep_le h0; simp only [Part.dep]; omega
  | ite h0 _ _ hl ic ia => have := gdep_le h0; have h1 := leaf_dep hl; simp only [Part.dep]; omega
  | add h0 _ _ ia ib => have := gdep_le h0; simp only [Part.dep]; omega
  | less h0 _ _ ia ib => have := gdep_le h0; simp only [Part.dep]; omega
end BN
namespace BN
open PySem L2
/-! ### how wide -/
mutual
def Part.wid : Part → Nat
  | .num _ => 0
  | .name _ => 0
  | .add a b => max a.wid b.wid
  | .less a b => max a.wid b.wid
  | .ite c a b => max c.wid (max a.wid b.wid)
  | .say a => a.wid
  | .lt _ a b => max a.wid b.wid
  | .fn _ ps b r => max ps.length (max b.wid r.wid)
  | .call _ as => max as.len as.wid
def Parts.wid : Parts → Nat
  | .nil => 0
  | .cons p r => max p.wid r.wid
end
theorem wid_list : ∀ (as : Parts) (q : Part), q ∈ as.list → q.wid ≤ as.wid
  | .nil, q, h => by simp [Parts.list] at h
  | .cons p r, q, h => by
    have h' : q = p ∨ q ∈ r.list := by simpa [Parts.list] using h
    have e : (Parts.cons p r).wid = max p.wid r.wid := by simp [Parts.wid]
    rcases h' with rfl | h'
    · omega
    · have := wid_list r q h'; omega
theorem wid_inner (p q : Part) (h : q ∈ p.inner) : q.wid ≤ p.wid := by
  cases p with
  | num n => simp [Part.inner] at h
  | name x => simp [Part.inner] at h
  | add a b => simp [Part.inner] at h; rcases h with rfl | rfl <;> simp [Part.wid] <;> omega
  | less a b => simp [Part.inner] at h; rcases h with rfl | rfl <;> simp [Part.wid] <;> omega
  | ite c a b => simp [Part.inner] at h; rcases h with rfl | rfl | rfl <;> simp [Part.wid] <;> omega
  | say a => simp [Part.inner] at h; subst h; simp [Part.wid]
  | lt x a b => simp [Part.inner] at h; rcases h with rfl | rfl <;> simp [Part.wid] <;> omega
  | fn f ps b r => simp [Part.inner] at h; rcases h with rfl | rfl <;> simp [Part.wid] <;> omega
  | call f as => have := wid_list as q (by simpa [Part.inner] using h); simp [Part.wid]; omega
theorem len_inner (p : Part) : p.inner.length ≤ max 3 p.wid := by
  cases p <;> simp [Part.inner, Part.wid, Parts.list_len] <;> omega
theorem parts_wid : ∀ {l : List Part} {n : Nat}, (∀ a ∈ l, a.wid ≤ n) → (Parts.of l).wid ≤ n
  | [], _, _ => by simp [Parts.of, Parts.wid]
  | p :: r, n, h => by
    have h1 := h p (by simp)
    have h2 : (Parts.of r).wid ≤ n := parts_wid fun a ha => h a (List.mem_cons_of_mem _ ha)
    simp only [Parts.of, Parts.wid]; omega
theorem leaf_wid {names p} (h : Leaf names p) : p.wid = 0 := by cases h <;> simp [Part.wid]
theorem gen_wid {ws : List Str} {d names funs p} (h : Gen ws d names funs p) : (∀ e ∈ funs, e.2 ≤ 4) → p.wid ≤ 4 := by
  have kn : ∀ {funs : List (Str × Nat)} {f : Str} {n : Nat}, n ≤ 4 → (∀ e ∈ funs, e.2 ≤ 4) → ∀ e ∈ known funs f n, e.2 ≤ 4 := fun h0 h e he => by
    rcases List.mem_append.mp he with q | q
    · exact h e (List.mem_filter.mp q).1
    · rw [List.mem_singleton.mp q]; exact h0
  induction h with
  | leaf h => intro _; rw [leaf_wid h]; omega
  | fn _ _ _ _ hl _ _ ib ir => intro q; have h1 := ib q; have h2 := ir (kn hl q); simp only [Part.wid]; omega
  | fnc _ _ _ _ hl _ _ _ hle has hlen ib ir =>
    intro q
    have h1 := ib q
    have h2 := ir (kn hl q)
    have h3 := leaf_wid hle
    have h4 := parts_wid (n := 0) fun a ha => Nat.le_of_eq (leaf_wid (has a ha))
    simp only [Part.wid, Parts.len_of]; omega
  | lt _ _ _ _ ia ib => intro q; have h1 := ia q; have h2 := ib q; simp only [Part.wid]; omega
  | @call d names funs f as _ hm _ ih =>
    intro q
    have h1 := q _ hm
    have h2 := parts_wid (n := 4) fun a ha => ih a ha q
    have h3 : as.length ≤ 4 := h1
    simp only [Part.wid, Parts.len_of]; omega
  | say _ _ ih => intro q; have := ih q; simp only [Part.wid]; omega
  | ite _ _ _ hl ic ia => intro q; have h1 := ic q; have h2 := ia q; have h3 := leaf_wid hl; simp only [Part.wid]; omega
  | add _ _ _ ia ib => intro q; have h1 := ia q; have h2 := ib q; simp only [Part.wid]; omega
  | less _ _ _ ia ib => intro q; have h1 := ia q; have h2 := ib q; simp only [Part.wid]; omega
mutual
def wd : PyData → Nat
  | .list ds => max ds.length (wds ds)
  | .tuple ds => max ds.length (wds ds)
  | _ => 0
def wds : List PyData → Nat
  | [] => 0
  | d :: r => max (wd d) (wds r)
end
theorem wds_mem : ∀ {ds : List PyData} {d : PyData}, d ∈ ds → wd d ≤ wds ds
  | e :: r, d, h => by
    have q : wds (e :: r) = max (wd e) (wds r) := by simp [wds]
    rcases List.mem_cons.mp h with rfl | h
    · omega
    · have := wds_mem h; omega
theorem dep_mem : ∀ {ds : List PyData} {d : PyData}, d ∈ ds → d.depth ≤ PyData.depthAll ds
  | e :: r, d, h => by
    have q : PyData.depthAll (e :: r) = max e.depth (PyData.depthAll r) := by simp [PyData.depthAll]
    rcases List.mem_cons.mp h with rfl | h
    · omega
    · have := dep_mem h; omega
end BN
namespace BN
open PySem L2 PyProof.Rows
/-! ### short words for readings -/
abbrev oAdd : R2 := rI0 fun i j => .int (i + j)
abbrev oSub : R2 := rI0 fun i j => .int (i - j)
abbrev oMul : R2 := rI CMul fun i j => .int (i * j)
abbrev oDiv : R2 := rI CDiv fun i j => .int (i / j)
abbrev oMod : R2 := rI (fun _ j => 0 < j) fun i j => .int (i % j)
abbrev oLt : R2 := rI0 fun i j => .bl (decide (i < j))
abbrev oLe : R2 := rI0 fun i j => .bl (decide (i ≤ j))
abbrev oGt : R2 := rI0 fun i j => .bl (decide (j < i))
abbrev oGe : R2 := rI0 fun i j => .bl (decide (j ≤ i))
abbrev oNeg : V → Hp → VK → Prop := rU fun i => .int (-i)
abbrev oAddS : R2 := fun x y H Q => ∃ i j, x = .str i ∧ y = .str j ∧ i.length + j.length ≤ sizeLine ∧ Q (.str (i ++ j)) H
abbrev rLenSq (K : PySem.W.Frag) : List V → Hp → VK → Prop := fun xs H Q => ∃ p ys, xs = [.ref p] ∧ (SqL K H p ys ∨ SqT K H p ys) ∧ Q (.int ys.length) H
abbrev rLenStr : List V → Hp → VK → Prop := fun xs H Q => ∃ z, xs = [.str z] ∧ z.length ≤ sizeLine ∧ Q (.int z.length) H
abbrev rInt1 : List V → Hp → VK → Prop := fun xs H Q => (∃ i, xs = [.int i] ∧ Q (.int i) H) ∨ ∃ k, xs = [.bl k] ∧ Q (.int (if k then 1 else 0)) H
abbrev rStrI : List V → Hp → VK → Prop := fun xs H Q => ∃ i, xs = [.int i] ∧ i.natAbs.log2 < 1920 ∧ Q (.str (toString i)) H
abbrev rIntS : List V → Hp → VK → Prop := fun xs H Q => ∃ (a : Str) (n : Int), xs = [.str a] ∧ PySem.intText? a = some n ∧ a.length ≤ 640 ∧ Q (.int n) H
abbrev rListSq (K : PySem.W.Frag) : List V → Hp → VK → Prop := fun xs H Q => ∃ p ys, xs = [.ref p] ∧ (SqL K H p ys ∨ SqT K H p ys) ∧ ∀ l, H l = none → Q (.ref l) (upd H l (.lst ys))
abbrev rTupSq (K : PySem.W.Frag) : List V → Hp → VK → Prop := fun xs H Q => ∃ p ys, xs = [.ref p] ∧ ((SqL K H p ys ∧ ∀ l, H l = none → Q (.ref l) (upd H l (.tup ys))) ∨ (SqT K H p ys ∧ Q (.ref p) H))
abbrev rDictD : List V → Hp → VK → Prop := fun xs H Q => ∃ (a : Addr) (kvs : List (Key × V)), xs = [.ref a] ∧ Rd H a (.dK kvs) ∧ ∀ p, H p = none → Q (.ref p) (upd H p (.dK kvs))
abbrev rListD : List V → Hp → VK → Prop := fun xs H Q => ∃ (a : Addr) (kvs : List (Key × V)), xs = [.ref a] ∧ Rd H a (.dK kvs) ∧ ∀ p, H p = none → Q (.ref p) (upd H p (.lst (kvs.map fun kv => kV kv.1)))
abbrev rInW (K : PySem.W.Frag) (d : Addr) : R2 := fun x y H Q => ∃ (z : Str) (r : Option Value), x = .str z ∧ y = .ref d ∧ PySem.W.nsIn K d z = some r ∧ Q (.bl r.isSome) H
abbrev rNotInW (K : PySem.W.Frag) (d : Addr) : R2 := fun x y H Q => ∃ (z : Str) (r : Option Value), x = .str z ∧ y = .ref d ∧ PySem.W.nsIn K d z = some r ∧ Q (.bl (!r.isSome)) H
theorem pe_mk0 {X : Cx} {k j : Nat} {C : Addr} {x : Str} {sp : Sp} {dvs : List V} {p pos : Pos} (c : C8.Mak X.prog X.w X.K X.mg X.base k x C sp dvs) (hr : Room j X.A) (hk : k + 1 ≤ j) (hg : Gl X x) (hdb : (x == ("__debug__" : Str)) = false := by decide) :
    PE X (.Call (.Name x p) [] [] pos) (tMake C sp dvs C8.E0 tNil) := by
  obtain ⟨f, fd, ps, ds, M, F, hm, b, d⟩ := c.ex
  exact pe_make0 M F (hr.mono hk) hg hm b d C8.pass0 hdb
theorem one_sz {n : Nat} (h : n ≤ 1000) : n ≤ sizeLine := Nat.le_of_lt (small1000 h)
/-- over a text, as it stands -/
theorem lc_str {x : Str} {g : TG} {tt : TT} {te : TE} {vs : List Nat} {σ : L2.St} {H1 : Hp} {D : Addr} {Qd : Hp → Prop} (Pv : Nat → Hp → Prop) (h0 : Pv 0 (upd H1 D (.lst [])))
    (hs : ∀ i c H, x.cps[i]? = some c → Pv i H → g (.str ⟨#[c]⟩) (wipe σ vs) H fun σ2 H2 => wipe σ2 vs = wipe σ vs ∧ tt σ2 H2 fun b H3 =>
      if b = true then te σ2 H3 fun y H4 => ∃ acc, H4 D = some (.lst acc) ∧ acc.length < sizeLine ∧ Pv (i + 1) (upd H4 D (.lst (acc ++ [y]))) else Pv (i + 1) H3) (hd : ∀ H, Pv x.cps.size H → Qd H) :
    ∃ W : Nat → Nat → Hp → Prop, (∃ m, W 0 m (upd H1 D (.lst []))) ∧ ∀ i m H, W i m H →
      ((Its x).stop i H ∧ Qd H) ∨ ((Its x).go i H ∧ ∃ Nx : Hp → Prop, (∀ H', Nx H' → ∃ m', m' < m ∧ W (i + 1) m' H') ∧ ∀ y H', (Its x).yld i H y H' → g y (wipe σ vs) H' fun σ2 H2 => wipe σ2 vs = wipe σ vs ∧ tt σ2 H2 fun b H3 =>
        if b = true then te σ2 H3 fun y H4 => ∃ acc, H4 D = some (.lst acc) ∧ acc.length < sizeLine ∧ Nx (upd H4 D (.lst (acc ++ [y]))) else Nx H3) := by
  refine ⟨fun i m H => m = x.cps.size - i ∧ i ≤ x.cps.size ∧ Pv i H, ⟨x.cps.size, by simp, Nat.zero_le _, h0⟩, ?_⟩
  rintro i m H ⟨rfl, hi, p⟩
  by_cases hlt : i < x.cps.size
  · refine .inr ⟨hlt, Pv (i + 1), fun H' p' => ⟨x.cps.size - (i + 1), by omega, rfl, hlt, p'⟩, fun y H' q => ?_⟩
    obtain ⟨e, c, hc, ey⟩ := q
    subst e ey
    exact hs i c _ hc p
  · have e : i = x.cps.size := by omega
    subst e
    exact .inl ⟨Nat.le_refl _, hd H p⟩
/-- one more of a list, by its place -/
theorem take_more {α : Type} : ∀ {l : List α} {i : Nat} {x : α}, l[i]? = some x → l.take (i + 1) = l.take i ++ [x]
  | [], i, x, h => by simp at h
  | a :: l, 0, x, h => by
    have e : a = x := Option.some.inj h
    subst e; rfl
  | a :: l, i + 1, x, h => by
    have ih := take_more (l := l) (i := i) (x := x) h
    show a :: l.take (i + 1) = a :: l.take i ++ [x]
    rw [ih]; rfl
theorem map_at {α β : Type} {f : α → β} {l : List α} {i : Nat} {y : β} (h : (l.map f)[i]? = some y) : ∃ x, l[i]? = some x ∧ y = f x := by
  rw [List.getElem?_map] at h
  cases e : l[i]? with
  | none => rw [e] at h; cases h
  | some x => rw [e] at h; exact ⟨x, rfl, (Option.some.inj h).symm⟩
theorem at_lt {α : Type} {l : List α} {i : Nat} {x : α} (h : l[i]? = some x) : i < l.length := (List.getElem?_eq_some_iff.mp h).1
theorem get_lt {α : Type} {l : List α} {i : Nat} (h : i < l.length) : ∃ x, l[i]? = some x := ⟨l[i], List.getElem?_eq_getElem h⟩
theorem atI_int {α : Type} {l : List α} {i : Int} (h0 : 0 ≤ i) (h1 : i < l.length) : ∃ x, atI l i = some x ∧ l[i.toNat]? = some x := by
  obtain ⟨x, hx⟩ := get_lt (l := l) (i := i.toNat) (by omega)
  refine ⟨x, ?_, hx⟩
  have e : i = ((i.toNat : Nat) : Int) := by omega
  rw [e]
  exact atI_nat (by simpa using hx)
/-! ### the draws' box -/
def cB (bx il : Addr) : CP := fun a _ => a = bx ∨ a = il
structure Box (H : Hp) (bx il : Addr) : Prop where
  ex : ∃ (ns : List Int) (sd : Int), H bx = some (.lst [.ref il, .int sd]) ∧ H il = some (.lst (ns.map V.int)) ∧ ns.length ≤ 63
def Ls (H : Hp) (bx il a : Addr) (xs : List V) : Prop := H a = some (.lst xs) ∧ a ≠ bx ∧ a ≠ il
theorem Ls.fr {H H' : Hp} {bx il a : Addr} {xs : List V} (f : Fr (cB bx il) H H') (h : Ls H bx il a xs) : Ls H' bx il a xs :=
  ⟨f.at h.1 fun z => z.elim h.2.1 h.2.2, h.2⟩
theorem Ls.new {H : Hp} {bx il a : Addr} {xs : List V} (B : Box H bx il) (hp : H a = none) : Ls (upd H a (.lst xs)) bx il a xs := by
  obtain ⟨ns, sd, h1, h2, _⟩ := B.ex
  exact ⟨upd_same, (ne_of_none h1 hp).symm, (ne_of_none h2 hp).symm⟩
theorem Box.new {H : Hp} {bx il a : Addr} {o : HO} (B : Box H bx il) (hp : H a = none) : Box (upd H a o) bx il := by
  obtain ⟨ns, sd, h1, h2, h3⟩ := B.ex
  exact ⟨ns, sd, by rw [upd_ne (ne_of_none h1 hp)]; exact h1, by rw [upd_ne (ne_of_none h2 hp)]; exact h2, h3⟩
/-- what is new (in the heap ahead) may change -/
theorem Box.fresh {H H' : Hp} {bx il a : Addr} {o : HO} (B : Box H bx il) (B' : Box H' bx il) (hp : H a = none) : Box (upd H' a o) bx il := by
  obtain ⟨ns, sd, h1, h2, h3⟩ := B.ex
  obtain ⟨ns', sd', h1', h2', h3'⟩ := B'.ex
  exact ⟨ns', sd', by rw [upd_ne (ne_of_none h1 hp)]; exact h1', by rw [upd_ne (ne_of_none h2 hp)]; exact h2', h3'⟩
theorem Ls.sq {K : PySem.W.Frag} {H : Hp} {bx il a : Addr} {xs : List V} (h : Ls H bx il a xs) : SqL K H a xs := SqL.of h.1
theorem Box.ne {H : Hp} {bx il : Addr} (B : Box H bx il) : bx ≠ il := by
  obtain ⟨ns, sd, h1, h2, _⟩ := B.ex
  refine ne_of h1 h2 fun z => ?_
  injection z with z
  cases ns with
  | nil => cases z
  | cons n r => rw [List.map_cons] at z; injection z with z _; cases z
end BN
namespace BN
open PySem L2 PyProof.Rows
/-! ### the draws -/
def spBegun (K : PySem.W.Frag) : Sp := fun vs H Q _ => ∃ (a : Addr) (ns : List Int), vs = [.ref a] ∧ SqL K H a (ns.map V.int) ∧ ns.length ≤ 63 ∧
  ∀ bx il H', Fr c0 H H' → Box H' bx il → Q (.ref bx) H'
def spTake : Sp := fun vs H Q _ => ∃ (bx il : Addr) (m : Int), vs = [.ref bx, .int m] ∧ Box H bx il ∧ 0 < m ∧ m < 1073741824 ∧
  ∀ r H', 0 ≤ r → r < m → Fr (cB bx il) H H' → Box H' bx il → Q (.int r) H'
def t_begun (K : PySem.W.Frag) : TS :=
  (tSeq (tAsg (tC (.int 0)) (gName 1))
    (tSeq (tFor (iList K (tVar 0)) (gName 2) (tAsg (tOp oMod (tOp oAdd (tOp oAdd (tOp oMul (tVar 1) (tC (.int 48271))) (tOp oMul (tVar 2) (tC (.int 69621)))) (tC (.int 11))) (tC (.int 2147483647))) (gName 1)))
    (tRet (tLst (tCons (tCB (rListSq K) (tCons (tVar 0) tNil)) (tCons (tOp oMul (tVar 1) (tCB rInt1 (tCons (tOp oGt (tCB (rLenSq K) (tCons (tVar 0) tNil)) (tC (.int 2))) tNil))) tNil))))))
theorem pure_begun {K : PySem.W.Frag} (vs : List V) (H : Hp) (Q : VK) (E : XK) (h : spBegun K vs H Q E) : t_begun K { nx := fun _ H' => Q .non H', rt := Q } (start ["s", "t", "c"] vs) H := by
  obtain ⟨a, ns, rfl, hS, hl, k⟩ := h
  refine ⟨_, rfl, a, rfl, ⟨_, hS⟩, for_list (K := K) (a := a) (xs := ns.map V.int) (fun i σ H' => ∃ (z : Int) (v : Option V), σ = [some (.ref a), some (.int z), v] ∧ H' = H)
    ⟨0, none, rfl, rfl⟩ (fun i σ H' _ ⟨_, _, _, e⟩ => by subst e; exact hS) ?_ ?_⟩
  · rintro i y σ H' hi ⟨z, v, rfl, rfl⟩
    obtain ⟨u, _, rfl⟩ := map_at hi
    exact ⟨_, rfl, _, _, rfl, rfl, .inr ⟨by decide, by decide⟩, _, rfl, _, _, rfl, rfl, .inr ⟨by decide, by decide⟩, _, _, rfl, rfl, _, _, rfl, rfl, _, _, rfl, rfl, (by show (0 : Int) < 2147483647; decide), _, _, rfl, rfl⟩
  · rintro σ H' ⟨z, v, rfl, rfl⟩
    refine ⟨_, rfl, a, _, rfl, .inl hS, fun il hil => ?_⟩
    have f1 : Fr c0 H' (upd H' il (.lst (ns.map V.int))) := Fr.new hil
    refine ⟨_, rfl, _, rfl, a, _, rfl, .inl (f1.sqL (fun _ z => z) hS), _, _, rfl, rfl, .inr ⟨_, rfl, ?_⟩⟩
    refine ⟨_, _, rfl, rfl, ?_, one_sz (by show 2 ≤ 1000; decide), fun bx hbx => ?_⟩
    · right
      split <;> decide
    · refine k bx il _ (f1.trans (Fr.new hbx)) ⟨ns, _, upd_same, ?_, hl⟩
      rw [upd_ne (ne_of_none upd_same hbx)]
      exact upd_same
theorem canInts : ∀ l : List Int, PyData.canLayAll0 (l.map PyData.int) = true
  | [] => rfl
  | x :: r => by rw [List.map_cons, PyData.canLayAll0, canInts r]; rfl
theorem depInts : ∀ l : List Int, PyData.depthAll (l.map PyData.int) ≤ 1
  | [] => by simp [PyData.depthAll]
  | x :: r => by
    have := depInts r
    simp only [List.map_cons, PyData.depthAll, PyData.depth]
    omega
theorem shaped_ints (ns : List Int) : SeqAt.shaped (.list (ns.map PyData.int)) = true := by
  have h1 := canInts ns
  have h2 := depInts ns
  unfold SeqAt.shaped
  rw [Bool.and_eq_true, decide_eq_true_eq]
  refine ⟨by simpa [PyData.canLay0] using h1, ?_⟩
  show PyData.depth (.list (ns.map PyData.int)) ≤ 64
  rw [PyData.depth]
  omega
theorem ix0 {α : Type} {x : α} {r : List α} : ixN (x :: r).length 0 = some 0 := by
  unfold ixN
  rw [if_pos (Int.le_refl 0), if_pos (by rw [List.length_cons]; omega)]
  rfl
def t_take (K : PySem.W.Frag) : TS :=
  (tSeq (tIfS (tTest (tOp (rEqD K) (tOp (rIxL K) (tVar 0) (tC (.int 0))) (tLst tNil))) (tSeq (tAsg (tOp oMod (tOp oMul (tOp (rIxL K) (tVar 0) (tC (.int 1))) (tC (.int 48271))) (tC (.int 2147483647))) (gSub (tVar 0) (tC (.int 1)) rSetL))
    (tRet (tOp oMod (tOp oDiv (tOp (rIxL K) (tVar 0) (tC (.int 1))) (tC (.int 7))) (tVar 1)))) tNext)
    (tSeq (tAsg (tOp (rIxL K) (tOp (rIxL K) (tVar 0) (tC (.int 0))) (tC (.int 0))) (gName 2))
    (tSeq (tAsg (tOp oDiv (tVar 2) (tVar 1)) (gSub (tOp (rIxL K) (tVar 0) (tC (.int 0))) (tC (.int 0)) rSetL))
    (tSeq (tIfS (tOr (tTest (tOp rEq (tOp (rIxL K) (tOp (rIxL K) (tVar 0) (tC (.int 0))) (tC (.int 0))) (tC (.int 0)))) (tTest (tOp rEq (tOp (rIxL K) (tOp (rIxL K) (tVar 0) (tC (.int 0))) (tC (.int 0))) (tUn oNeg (tC (.int 1)))))) (tDrop (tBM K "list" rPopAt (tOp (rIxL K) (tVar 0) (tC (.int 0))) (tCons (tC (.int 0)) tNil))) tNext)
    (tRet (tOp oMod (tVar 2) (tVar 1)))))))
theorem pure_take {K : PySem.W.Frag} (vs : List V) (H : Hp) (Q : VK) (E : XK) (h : spTake vs H Q E) : t_take K { nx := fun _ H' => Q .non H', rt := Q } (start ["b", "m", "n"] vs) H := by
  obtain ⟨bx, il, m, rfl, B, m0, m1, k⟩ := h
  have nbi := B.ne
  obtain ⟨ns, sd, h1, h2, h3⟩ := B.ex
  refine ⟨_, rfl, bx, _, _, _, rfl, rfl, SqL.of h1, rfl, one_sz (Nat.zero_le _), fun p hp => ?_⟩
  have f1 : Fr (cB bx il) H (upd H p (.lst [])) := Fr.new hp
  have nbp := ne_of_none h1 hp
  have nip := ne_of_none h2 hp
  have g1 : (upd H p (.lst [])) bx = some (.lst [.ref il, .int sd]) := by rw [upd_ne nbp]; exact h1
  have g2 : (upd H p (.lst [])) il = some (.lst (ns.map V.int)) := by rw [upd_ne nip]; exact h2
  refine ⟨.list (ns.map .int), .list [], .lst (SqL.of g2) (DpAll.ints ns), .lst (SqL.of upd_same) .nil, ?_, rfl, _, rfl, ?_⟩
  · exact shaped_ints ns
  rw [eqv_lists_nil]
  cases ns with
  | nil =>
    refine iteT ?_
    refine ⟨_, rfl, bx, _, _, _, rfl, rfl, SqL.of g1, rfl, _, _, rfl, rfl, .inr ⟨by decide, by decide⟩, _, _, rfl, rfl, (by show (0 : Int) < 2147483647; decide), _, rfl, bx, _, _, 1, rfl, rfl, g1, rfl, ?_⟩
    have f2 := f1.trans (Fr.set (o' := .lst [.ref il, .int (sd * 48271 % 2147483647)]) g1 (Or.inl rfl) trivial)
    refine ⟨_, rfl, bx, _, _, _, rfl, rfl, SqL.of upd_same, rfl, _, _, rfl, rfl, ⟨by decide, by decide⟩, _, rfl, _, _, rfl, rfl, m0, ?_⟩
    refine k _ _ (Int.emod_nonneg _ (by omega)) (Int.emod_lt_of_pos _ m0) f2 ⟨[], _, upd_same, ?_, Nat.zero_le _⟩
    rw [upd_ne nbi.symm]
    exact g2
  | cons x r =>
    refine iteF ?_
    refine ⟨_, rfl, bx, _, _, _, rfl, rfl, SqL.of g1, rfl, il, _, _, _, rfl, rfl, SqL.of g2, atI_nat (j := 0) rfl, ?_⟩
    refine ⟨_, rfl, _, rfl, _, _, rfl, rfl, ⟨m0, m1⟩, _, rfl, bx, _, _, _, rfl, rfl, SqL.of g1, rfl, il, _, _, 0, rfl, rfl, g2, ix0, ?_⟩
    have e : ((x :: r).map V.int).set 0 (.int (x / m)) = ((x / m) :: r).map V.int := rfl
    show tSeq _ _ _ _ (upd (upd H p (.lst [])) il (.lst (((x :: r).map V.int).set 0 (.int (x / m)))))
    rw [e]
    have f2 := f1.trans (Fr.set (o' := .lst (((x / m) :: r).map V.int)) g2 (Or.inr rfl) trivial)
    have q1 : (upd (upd H p (.lst [])) il (.lst (((x / m) :: r).map V.int))) bx = some (.lst [.ref il, .int sd]) := by rw [upd_ne nbi]; exact g1
    have q2 : (upd (upd H p (.lst [])) il (.lst (((x / m) :: r).map V.int))) il = some (.lst (((x / m) :: r).map V.int)) := upd_same
    have fin : ∀ H', Fr (cB bx il) H H' → Box H' bx il → (tRet (tOp oMod (tVar 2) (tVar 1))) { nx := fun _ H' => Q .non H', rt := Q } [some (.ref bx), some (.int m), some (.int x)] H' := fun H' f b =>
      ⟨_, rfl, _, rfl, _, _, rfl, rfl, m0, k _ _ (Int.emod_nonneg _ (by omega)) (Int.emod_lt_of_pos _ m0) f b⟩
    refine ⟨_, rfl, bx, _, _, _, rfl, rfl, SqL.of q1, rfl, il, _, _, _, rfl, rfl, SqL.of q2, atI_nat (j := 0) rfl, rfl, _, rfl, ?_⟩
    have pop : (tDrop (tBM K "list" rPopAt (tOp (rIxL K) (tVar 0) (tC (.int 0))) (tCons (tC (.int 0)) tNil))) { nx := (tRet (tOp oMod (tVar 2) (tVar 1))) { nx := fun _ H' => Q .non H', rt := Q }, rt := Q } [some (.ref bx), some (.int m), some (.int x)] (upd (upd H p (.lst [])) il (.lst (((x / m) :: r).map V.int))) := by
      refine ⟨_, rfl, bx, _, _, _, rfl, rfl, SqL.of q1, rfl, .inl ⟨rfl, _, Or.inl (Or.inl q2)⟩, il, _, _, 0, _, rfl, rfl, q2, by decide, by decide, (ixN_seq ix0).1, rfl, ?_⟩
      refine fin _ (f2.trans (Fr.set q2 (Or.inr rfl) trivial)) ⟨r, sd, ?_, upd_same, ?_⟩
      · rw [upd_ne nbi]; exact q1
      · rw [List.length_cons] at h3; omega
    have stay : Box (upd (upd H p (.lst [])) il (.lst (((x / m) :: r).map V.int))) bx il := ⟨(x / m) :: r, sd, q1, q2, by rw [List.length_cons] at h3 ⊢; exact h3⟩
    refine ite2 (fun _ => iteT pop) (fun _ => ?_)
    refine ⟨_, rfl, bx, _, _, _, rfl, rfl, SqL.of q1, rfl, il, _, _, _, rfl, rfl, SqL.of q2, atI_nat (j := 0) rfl, _, rfl, rfl, _, rfl, ?_⟩
    refine ite2 (fun _ => pop) (fun _ => fin _ f2 stay)
end BN
namespace BN
open PySem L2 PyProof.Rows
theorem strOk_word {x : Str} (h : wordB x = true) : PyData.strOk x = true := by
  unfold wordB at h
  rw [Bool.and_eq_true] at h
  unfold PyData.strOk
  rw [Array.all_eq_true] at *
  intro i hi
  have := h.2 i hi
  simp only [Bool.and_eq_true, decide_eq_true_eq] at this ⊢
  omega
theorem canStrs : ∀ l : List Str, (∀ x ∈ l, PyData.strOk x = true) → PyData.canLayAll0 (l.map PyData.str) = true
  | [], _ => rfl
  | x :: r, h => by
    rw [List.map_cons, PyData.canLayAll0, canStrs r fun y hy => h y (List.mem_cons_of_mem _ hy)]
    have := h x (List.mem_cons_self ..)
    simpa [PyData.canLay0] using this
theorem depStrs : ∀ l : List Str, PyData.depthAll (l.map PyData.str) = 0
  | [] => by simp [PyData.depthAll]
  | x :: r => by simp only [List.map_cons, PyData.depthAll, PyData.depth, depStrs r]; rfl
theorem shaped_strs {l : List Str} (h : ∀ x ∈ l, PyData.strOk x = true) : SeqAt.shaped (.list (l.map PyData.str)) = true := by
  have h1 := canStrs l h
  unfold SeqAt.shaped
  rw [Bool.and_eq_true, decide_eq_true_eq]
  refine ⟨by simpa [PyData.canLay0] using h1, ?_⟩
  rw [PyData.depth, depStrs]; decide
/-! ### a leaf -/
def spLeaf (K : PySem.W.Frag) : Sp := fun vs H Q _ => ∃ (bx il nm : Addr) (names : List Str), vs = [.ref bx, .ref nm] ∧ Box H bx il ∧ Ls H bx il nm (names.map V.str) ∧ (∀ x ∈ names, wordB x = true) ∧ names.length ≤ 1000 ∧
  ∀ p v H', Leaf names p → Dp K H' v p.enc → Fr (cB bx il) H H' → Box H' bx il → Q v H'
def t_leaf (K : PySem.W.Frag) : TS :=
  (tSeq (tIfS (tOr (tTest (tOp (rEqD K) (tVar 1) (tLst tNil))) (tTest (tOp rEq (tCall spTake [] C8.E0 (tCons (tVar 0) (tCons (tC (.int 4)) tNil))) (tC (.int 1))))) (tRet (tTup (tCons (tC (.str "num")) (tCons (tCall spTake [] C8.E0 (tCons (tVar 0) (tCons (tOp (rIxL K) (tLst (tCons (tC (.int 3)) (tCons (tC (.int 100)) tNil))) (tCB rInt1 (tCons (tOp rEq (tCall spTake [] C8.E0 (tCons (tVar 0) (tCons (tC (.int 3)) tNil))) (tC (.int 1))) tNil))) tNil))) tNil)))) tNext)
    (tRet (tTup (tCons (tC (.str "name")) (tCons (tOp (rIxL K) (tVar 1) (tOp oSub (tOp oSub (tCB (rLenSq K) (tCons (tVar 1) tNil)) (tC (.int 1))) (tCall spTake [] C8.E0 (tCons (tVar 0) (tCons (tCB (rLenSq K) (tCons (tVar 1) tNil)) tNil))))) tNil)))))
theorem pure_leaf {K : PySem.W.Frag} (vs : List V) (H : Hp) (Q : VK) (E : XK) (h : spLeaf K vs H Q E) : t_leaf K { nx := fun _ H' => Q .non H', rt := Q } (start ["b", "n"] vs) H := by
  obtain ⟨bx, il, nm, names, rfl, B, N, hw, hl, k⟩ := h
  have num : ∀ H1, Fr (cB bx il) H H1 → Box H1 bx il → (tRet (tTup (tCons (tC (.str "num")) (tCons (tCall spTake [] C8.E0 (tCons (tVar 0) (tCons (tOp (rIxL K) (tLst (tCons (tC (.int 3)) (tCons (tC (.int 100)) tNil))) (tCB rInt1 (tCons (tOp rEq (tCall spTake [] C8.E0 (tCons (tVar 0) (tCons (tC (.int 3)) tNil))) (tC (.int 1))) tNil))) tNil))) tNil))))
      { nx := fun _ H' => Q .non H', rt := Q } [some (.ref bx), some (.ref nm)] H1 := fun H1 f B1 => by
    refine ⟨_, rfl, one_sz (by show 2 ≤ 1000; decide), fun q hq => ?_⟩
    have f1 : Fr (cB bx il) H1 (upd H1 q (.lst [.int 3, .int 100])) := Fr.new hq
    have B2 : Box (upd H1 q (.lst [.int 3, .int 100])) bx il := B1.new hq
    have Lq : Ls (upd H1 q (.lst [.int 3, .int 100])) bx il q [.int 3, .int 100] := Ls.new B1 hq
    refine ⟨_, rfl, bx, il, 3, rfl, B2, by decide, by decide, fun r H3 r0 r3 f3 B3 => ⟨rfl, .inr ⟨_, rfl, ?_⟩⟩⟩
    have L3 := Lq.fr f3
    by_cases e : r = 1
    · subst e
      refine ⟨q, _, _, _, rfl, rfl, L3.sq, rfl, bx, il, 100, rfl, B3, by decide, by decide, fun r' H4 h0 h1 f4 B4 => ⟨one_sz (by show 2 ≤ 1000; decide), fun t ht => ?_⟩⟩
      exact k (.num r') _ _ (.num h0 (by omega)) (.tup (SqT.of upd_same) (.cons (.str _) (.cons (.int _) .nil))) ((((f.trans f1).trans f3).trans f4).trans (Fr.new ht)) (B4.new ht)
    · have d : decide (V.int r = V.int 1) = false := decide_eq_false fun z => e (V.int.inj z)
      rw [d]
      refine ⟨q, _, _, _, rfl, rfl, L3.sq, rfl, bx, il, 3, rfl, B3, by decide, by decide, fun r' H4 h0 h1 f4 B4 => ⟨one_sz (by show 2 ≤ 1000; decide), fun t ht => ?_⟩⟩
      exact k (.num r') _ _ (.num h0 (by omega)) (.tup (SqT.of upd_same) (.cons (.str _) (.cons (.int _) .nil))) ((((f.trans f1).trans f3).trans f4).trans (Fr.new ht)) (B4.new ht)
  refine ⟨_, rfl, one_sz (Nat.zero_le _), fun p hp => ?_⟩
  have f1 : Fr (cB bx il) H (upd H p (.lst [])) := Fr.new hp
  have B1 := B.new (o := .lst []) hp
  have N1 := N.fr f1
  refine ⟨.list (names.map .str), .list [], .lst N1.sq (DpAll.strs names), .lst (SqL.of upd_same) .nil, shaped_strs fun x hx => strOk_word (hw x hx), rfl, _, rfl, ?_⟩
  rw [eqv_lists_nil]
  cases names with
  | nil => exact iteT (num _ f1 B1)
  | cons x r =>
    refine iteF ⟨_, rfl, bx, il, 4, rfl, B1, by decide, by decide, fun z H2 z0 z1 f2 B2 => ⟨rfl, _, rfl, ?_⟩⟩
    refine ite2 (fun _ => num _ (f1.trans f2) B2) fun _ => ?_
    have N2 := N1.fr f2
    have ll : ((x :: r).map V.str).length = (x :: r).length := List.length_map _
    refine ⟨_, rfl, _, rfl, nm, _, rfl, .inl N2.sq, _, _, rfl, rfl, _, rfl, _, rfl, nm, _, rfl, .inl N2.sq, bx, il, _, rfl, B2, ?_, ?_, fun z' H3 h0 h1 f3 B3 => ?_⟩
    · rw [ll, List.length_cons]; omega
    · rw [ll]; omega
    rw [ll] at h1
    obtain ⟨y, hy, hy2⟩ := atI_int (l := (x :: r).map V.str) (i := (((x :: r).map V.str).length : Int) - 1 - z') (by rw [ll]; omega) (by rw [ll]; omega)
    obtain ⟨w, hw1, rfl⟩ := map_at hy2
    refine ⟨_, _, rfl, rfl, nm, _, _, _, rfl, rfl, (N2.fr f3).sq, hy, one_sz (by show 2 ≤ 1000; decide), fun t ht => ?_⟩
    exact k (.name w) _ _ (.name (List.mem_of_getElem? hw1)) (.tup (SqT.of upd_same) (.cons (.str _) (.cons (.str _) .nil))) (((f1.trans f2).trans f3).trans (Fr.new ht)) (B3.new ht)
end BN
namespace BN
open PySem L2 PyProof.Rows
/-! ### comprehensions whose items come one by one, each some data of tuples -/
theorem wipe1 (σ : L2.St) (j : Nat) (x : Option V) : wipe ((wipe σ [j]).set j x) [j] = wipe σ [j] := by
  show ((σ.set j none).set j x).set j none = σ.set j none
  rw [List.set_set, List.set_set]
structure LcI (K : PySem.W.Frag) (C : CP) (I : Hp → Prop) (D : Addr) (H1 : Hp) (Good : Nat → PyData → Prop) (i : Nat) (H' : Hp) : Prop where
  ex : ∃ (vs : List V) (ds : List PyData), H' D = some (.lst vs) ∧ DpAll K H' vs ds ∧ ds.length = i ∧ (∀ k d, ds[k]? = some d → Good k d ∧ tupD d = true) ∧ Fr C H1 H' ∧ I H'
section
variable {K : PySem.W.Frag} {C : CP} {I : Hp → Prop} {D : Addr} {H1 H' H'' : Hp} {Good : Nat → PyData → Prop} {i n : Nat}
theorem LcI.start (hI : ∀ H' D o, H1 D = none → I H' → I (upd H' D o)) (h0 : I H1) (hD : H1 D = none) : LcI K C I D H1 Good 0 (upd H1 D (.lst [])) :=
  ⟨[], [], upd_same, .nil, rfl, fun k d h => by simp at h, Fr.new hD, hI _ _ _ hD h0⟩
theorem LcI.step (hI : ∀ H' D o, H1 D = none → I H' → I (upd H' D o)) (hC : ∀ D o, H1 D = none → ¬ C D o) (hD : H1 D = none) (hi : i < 100000) (L : LcI K C I D H1 Good i H') {d : PyData} {y : V} (g : Good i d) (t : tupD d = true) (hd : Dp K H'' y d) (f : Fr C H' H'') (h : I H'') :
    ∃ acc, H'' D = some (.lst acc) ∧ acc.length < sizeLine ∧ LcI K C I D H1 Good (i + 1) (upd H'' D (.lst (acc ++ [y]))) := by
  obtain ⟨vs, ds, e, da, dl, dg, df, dI⟩ := L.ex
  have e2 := f.at e (hC D _ hD)
  have dt : tupDs ds = true := tupDs_all fun x hx => by
    obtain ⟨k, hk⟩ := List.getElem?_of_mem hx
    exact (dg k x hk).2
  have f2 : Fr (fun a _ => a = D) H'' (upd H'' D (.lst (vs ++ [y]))) := Fr.set e2 rfl trivial
  refine ⟨vs, e2, ?_, vs ++ [y], ds ++ [d], upd_same, ?_, ?_, ?_, (df.trans f).fresh hD, hI _ _ _ hD h⟩
  · rw [da.len, dl]
    exact Nat.lt_of_lt_of_le hi (by rw [sizeLine_eq]; decide)
  · exact (Dp.frs f2 _ _ dt (Dp.frs f _ _ dt da)).append (.cons (Dp.fr f2 _ _ t hd) .nil)
  · rw [List.length_append, dl]; rfl
  · intro k x hk
    by_cases hlt : k < ds.length
    · rw [List.getElem?_append_left hlt] at hk
      exact dg k x hk
    · rw [List.getElem?_append_right (by omega)] at hk
      have : k - ds.length = 0 := by
        cases q : k - ds.length with
        | zero => rfl
        | succ m => rw [q] at hk; simp at hk
      rw [this] at hk
      have e : d = x := by simpa using hk
      subst e
      have : k = i := by omega
      subst this
      exact ⟨g, t⟩
/-- what follows: the new list D -/
def LcQ (K : PySem.W.Frag) (C : CP) (I : Hp → Prop) (H1 : Hp) (Good : Nat → PyData → Prop) (n : Nat) (Q : Addr → Hp → Prop) : Prop :=
  ∀ D vs ds H', H1 D = none → H' D = some (.lst vs) → DpAll K H' vs ds → ds.length = n → (∀ k d, ds[k]? = some d → Good k d ∧ tupD d = true) → Fr C H1 H' → I H' → Q D H'
/-- one item -/
def LcE (K : PySem.W.Frag) (C : CP) (I : Hp → Prop) (H1 : Hp) (Good : Nat → PyData → Prop) (i : Nat) (te : TE) (σ : L2.St) : Prop :=
  ∀ H', Fr C H1 H' → I H' → ∀ Q : VK, (∀ d v H'', Good i d → tupD d = true → Dp K H'' v d → Fr C H' H'' → I H'' → Q v H'') → te σ H' Q
variable {te : TE} {σ : L2.St} {j : Nat} {Q : Addr → Hp → Prop}
theorem lcG_range (hI : ∀ H' D o, H1 D = none → I H' → I (upd H' D o)) (hC : ∀ D o, H1 D = none → ¬ C D o) (h0 : I H1) (hn : n ≤ 100000)
    (hte : ∀ i : Nat, i < n → LcE K C I H1 Good i te ((wipe σ [j]).set j (some (.int (0 + (i : Nat)))))) (hq : LcQ K C I H1 Good n Q) : ∀ D, H1 D = none →
    ∃ W : Nat → Nat → Hp → Prop, (∃ m, W 0 m (upd H1 D (.lst []))) ∧ ∀ i m H, W i m H →
      ((Itr 0 n).stop i H ∧ Q D H) ∨ ((Itr 0 n).go i H ∧ ∃ Nx : Hp → Prop, (∀ H', Nx H' → ∃ m', m' < m ∧ W (i + 1) m' H') ∧ ∀ x H', (Itr 0 n).yld i H x H' → gName j x (wipe σ [j]) H' fun σ2 H2 => wipe σ2 [j] = wipe σ [j] ∧ tYes σ2 H2 fun b H3 =>
        if b = true then te σ2 H3 fun y H4 => ∃ acc, H4 D = some (.lst acc) ∧ acc.length < sizeLine ∧ Nx (upd H4 D (.lst (acc ++ [y]))) else Nx H3) := fun D hD => by
  refine lc_range (lo := 0) (n := n) (Qd := fun H => Q D H) (LcI K C I D H1 Good) (LcI.start hI h0 hD) (fun i H' hi L => ⟨wipe1 _ _ _, ?_⟩) fun H' L => ?_
  · obtain ⟨vs, ds, e, da, dl, dg, df, dI⟩ := L.ex
    exact hte i hi H' df dI _ fun d v H'' g t hd f h => LcI.step hI hC hD (by omega) L g t hd f h
  · obtain ⟨vs, ds, e, da, dl, dg, df, dI⟩ := L.ex
    exact hq D vs ds H' hD e da dl dg df dI
theorem lcG_list {a : Addr} {xs : List V} (hx : SqL K H1 a xs) (ha : ∀ o, ¬ C a o) (hI : ∀ H' D o, H1 D = none → I H' → I (upd H' D o)) (hC : ∀ D o, H1 D = none → ¬ C D o) (h0 : I H1) (hn : xs.length ≤ 100000)
    (hte : ∀ i x, xs[i]? = some x → LcE K C I H1 Good i te ((wipe σ [j]).set j (some x))) (hq : LcQ K C I H1 Good xs.length Q) : ∀ D, H1 D = none →
    ∃ W : Nat → Nat → Hp → Prop, (∃ m, W 0 m (upd H1 D (.lst []))) ∧ ∀ i m H, W i m H →
      ((Itl K a).stop i H ∧ Q D H) ∨ ((Itl K a).go i H ∧ ∃ Nx : Hp → Prop, (∀ H', Nx H' → ∃ m', m' < m ∧ W (i + 1) m' H') ∧ ∀ x H', (Itl K a).yld i H x H' → gName j x (wipe σ [j]) H' fun σ2 H2 => wipe σ2 [j] = wipe σ [j] ∧ tYes σ2 H2 fun b H3 =>
        if b = true then te σ2 H3 fun y H4 => ∃ acc, H4 D = some (.lst acc) ∧ acc.length < sizeLine ∧ Nx (upd H4 D (.lst (acc ++ [y]))) else Nx H3) := fun D hD => by
  refine lc_list (K := K) (a := a) (xs := xs) (Qd := fun H => Q D H) (LcI K C I D H1 Good) (LcI.start hI h0 hD) (fun i H' _ L => by
    obtain ⟨vs, ds, e, da, dl, dg, df, dI⟩ := L.ex
    exact df.sqL ha hx) (fun i x H' hi L => ⟨wipe1 _ _ _, ?_⟩) fun H' L => ?_
  · obtain ⟨vs, ds, e, da, dl, dg, df, dI⟩ := L.ex
    have := at_lt hi
    exact hte i x hi H' df dI _ fun d v H'' g t hd f h => LcI.step hI hC hD (by omega) L g t hd f h
  · obtain ⟨vs, ds, e, da, dl, dg, df, dI⟩ := L.ex
    exact hq D vs ds H' hD e da dl dg df dI
theorem lcG_tup {a : Addr} {xs : List V} (hx : SqT K H1 a xs) (hI : ∀ H' D o, H1 D = none → I H' → I (upd H' D o)) (hC : ∀ D o, H1 D = none → ¬ C D o) (h0 : I H1) (hn : xs.length ≤ 100000)
    (hte : ∀ i x, xs[i]? = some x → LcE K C I H1 Good i te ((wipe σ [j]).set j (some x))) (hq : LcQ K C I H1 Good xs.length Q) : ∀ D, H1 D = none →
    ∃ W : Nat → Nat → Hp → Prop, (∃ m, W 0 m (upd H1 D (.lst []))) ∧ ∀ i m H, W i m H →
      ((Itt K a).stop i H ∧ Q D H) ∨ ((Itt K a).go i H ∧ ∃ Nx : Hp → Prop, (∀ H', Nx H' → ∃ m', m' < m ∧ W (i + 1) m' H') ∧ ∀ x H', (Itt K a).yld i H x H' → gName j x (wipe σ [j]) H' fun σ2 H2 => wipe σ2 [j] = wipe σ [j] ∧ tYes σ2 H2 fun b H3 =>
        if b = true then te σ2 H3 fun y H4 => ∃ acc, H4 D = some (.lst acc) ∧ acc.length < sizeLine ∧ Nx (upd H4 D (.lst (acc ++ [y]))) else Nx H3) := fun D hD => by
  refine lc_tup (K := K) (a := a) (xs := xs) (Qd := fun H => Q D H) (LcI K C I D H1 Good) (LcI.start hI h0 hD) (fun i H' _ L => by
    obtain ⟨vs, ds, e, da, dl, dg, df, dI⟩ := L.ex
    exact df.sqT hx) (fun i x H' hi L => ⟨wipe1 _ _ _, ?_⟩) fun H' L => ?_
  · obtain ⟨vs, ds, e, da, dl, dg, df, dI⟩ := L.ex
    have := at_lt hi
    exact hte i x hi H' df dI _ fun d v H'' g t hd f h => LcI.step hI hC hD (by omega) L g t hd f h
  · obtain ⟨vs, ds, e, da, dl, dg, df, dI⟩ := L.ex
    exact hq D vs ds H' hD e da dl dg df dI
end
/-- the box is such a thing -/
theorem box_up {H1 : Hp} {bx il : Addr} (B : Box H1 bx il) : ∀ H' D o, H1 D = none → Box H' bx il → Box (upd H' D o) bx il := fun _ _ _ hD B' => B.fresh B' hD
theorem box_no {H1 : Hp} {bx il : Addr} (B : Box H1 bx il) : ∀ (D : Addr) (o : HO), H1 D = none → ¬ cB bx il D o := fun D o hD z => by
  obtain ⟨ns, sd, h1, h2, _⟩ := B.ex
  rcases z with rfl | rfl
  · rw [h1] at hD; cases hD
  · rw [h2] at hD; cases hD
end BN
namespace BN
open PySem L2 PyProof.Rows
def encF (e : Str × Nat) : PyData := .tuple [.str e.1, .int e.2]
structure GenPre (K : PySem.W.Frag) (H : Hp) (bx il : Addr) (d : Int) (nm fn w : Addr) (names : List Str) (funs : List (Str × Nat)) (fv : List V) (ws : List Str) : Prop where
  box : Box H bx il
  nm : Ls H bx il nm (names.map V.str)
  nw : ∀ x ∈ names, wordB x = true
  fn : Ls H bx il fn fv
  fd : DpAll K H fv (funs.map encF)
  fw : ∀ e ∈ funs, wordB e.1 = true
  w : Ls H bx il w (ws.map V.str)
  ww : ∀ x ∈ ws, wordB x = true
  wd : ws.Nodup
  w3 : 3 ≤ ws.length
  w5 : ws.length ≤ 5
  ln : (names.length : Int) ≤ 5 * (10 - d)
  lf : (funs.length : Int) ≤ 10 - d
  ar : ∀ e ∈ funs, e.2 ≤ 4
  d0 : -1 ≤ d
  d5 : d ≤ 5
theorem tupDs_F (funs : List (Str × Nat)) : tupDs (funs.map encF) = true := tupDs_all fun d hd => by
  obtain ⟨x, _, rfl⟩ := List.mem_map.mp hd
  simp [encF, tupD, tupDs]
section
variable {K : PySem.W.Frag} {H H' : Hp} {bx il nm fn w p : Addr} {d d' : Int} {names : List Str} {funs : List (Str × Nat)} {fv : List V} {ws : List Str} {o : HO}
theorem GenPre.fr (P : GenPre K H bx il d nm fn w names funs fv ws) (f : Fr (cB bx il) H H') (B : Box H' bx il) : GenPre K H' bx il d nm fn w names funs fv ws :=
  ⟨B, P.nm.fr f, P.nw, P.fn.fr f, Dp.frs f _ _ (tupDs_F _) P.fd, P.fw, P.w.fr f, P.ww, P.wd, P.w3, P.w5, P.ln, P.lf, P.ar, P.d0, P.d5⟩
theorem GenPre.new (P : GenPre K H bx il d nm fn w names funs fv ws) (hp : H p = none) : GenPre K (upd H p o) bx il d nm fn w names funs fv ws := P.fr (Fr.new hp) (P.box.new hp)
theorem GenPre.down (P : GenPre K H bx il d nm fn w names funs fv ws) (h : d' ≤ d) (h0 : -1 ≤ d') : GenPre K H bx il d' nm fn w names funs fv ws :=
  ⟨P.box, P.nm, P.nw, P.fn, P.fd, P.fw, P.w, P.ww, P.wd, P.w3, P.w5, by have := P.ln; omega, by have := P.lf; omega, P.ar, h0, by have := P.d5; omega⟩
theorem GenPre.addN (P : GenPre K H bx il d nm fn w names funs fv ws) (hp : H p = none) {xs : List Str} (hx : ∀ x ∈ xs, wordB x = true) (hl : xs.length ≤ 5) (h : d' ≤ d - 1) (h0 : -1 ≤ d') :
    GenPre K (upd H p (.lst (names.map V.str ++ xs.map V.str))) bx il d' p fn w (names ++ xs) funs fv ws := by
  have Q := P.new (o := .lst (names.map V.str ++ xs.map V.str)) hp
  refine ⟨Q.box, by rw [List.map_append]; exact Ls.new P.box hp, fun x h => (List.mem_append.mp h).elim (P.nw x) (hx x), Q.fn, Q.fd, Q.fw, Q.w, Q.ww, Q.wd, Q.w3, Q.w5, ?_, by have := P.lf; omega, P.ar, h0, by have := P.d5; omega⟩
  have := P.ln
  rw [List.length_append]
  omega
theorem GenPre.addF (P : GenPre K H bx il d nm fn w names funs fv ws) {q : Addr} {gv : List V} {funs' : List (Str × Nat)} (hq : Ls H bx il q gv) (hd : DpAll K H gv (funs'.map encF)) (hw : ∀ e ∈ funs', wordB e.1 = true) (ha : ∀ e ∈ funs', e.2 ≤ 4) (hl : funs'.length ≤ funs.length + 1) (h : d' ≤ d - 1) (h0 : -1 ≤ d') :
    GenPre K H bx il d' nm q w names funs' gv ws :=
  ⟨P.box, P.nm, P.nw, hq, hd, hw, P.w, P.ww, P.wd, P.w3, P.w5, by have := P.ln; omega, by have := P.lf; omega, ha, h0, by have := P.d5; omega⟩
theorem GenPre.nl (P : GenPre K H bx il d nm fn w names funs fv ws) : names.length ≤ 55 := by
  have := P.ln; have := P.d0; omega
theorem GenPre.fl (P : GenPre K H bx il d nm fn w names funs fv ws) : funs.length ≤ 11 := by
  have := P.lf; have := P.d0; omega
end
def spPart (K : PySem.W.Frag) (n : Nat) : Sp := fun vs H Q _ => ∃ (bx il nm fn w : Addr) (d : Int) (names : List Str) (funs : List (Str × Nat)) (fv : List V) (ws : List Str), vs = [.ref bx, .int d, .ref nm, .ref fn, .ref w] ∧
  GenPre K H bx il d nm fn w names funs fv ws ∧ d + 2 ≤ n ∧ ∀ p v H', Gen ws d names funs p → Dp K H' v p.enc → Fr (cB bx il) H H' → Box H' bx il → Q v H'
def spFun (K : PySem.W.Frag) (n : Nat) : Sp := fun vs H Q _ => ∃ (bx il nm fn w : Addr) (d : Int) (names : List Str) (funs : List (Str × Nat)) (fv : List V) (ws : List Str), vs = [.ref bx, .int d, .ref nm, .ref fn, .ref w] ∧
  GenPre K H bx il d nm fn w names funs fv ws ∧ 0 < d ∧ d + 1 ≤ n ∧ ∀ p v H', Gen ws d names funs p → Dp K H' v p.enc → Fr (cB bx il) H H' → Box H' bx il → Q v H'
theorem shaped_F {funs : List (Str × Nat)} (h : ∀ e ∈ funs, wordB e.1 = true) : SeqAt.shaped (.list (funs.map encF)) = true := by
  have c : ∀ l : List (Str × Nat), (∀ e ∈ l, wordB e.1 = true) → PyData.canLayAll0 (l.map encF) = true := fun l => by
    induction l with
    | nil => intro _; rfl
    | cons x r ih =>
      intro h
      rw [List.map_cons, PyData.canLayAll0, ih fun y hy => h y (List.mem_cons_of_mem _ hy)]
      have := strOk_word (h x (List.mem_cons_self ..))
      simp [encF, PyData.canLay0, PyData.canLayAll0, this]
  have d : ∀ l : List (Str × Nat), PyData.depthAll (l.map encF) ≤ 1 := fun l => by
    induction l with
    | nil => simp [PyData.depthAll]
    | cons x r ih =>
      simp only [List.map_cons, PyData.depthAll, encF, PyData.depth]
      omega
  have h1 := c funs h
  have h2 := d funs
  unfold SeqAt.shaped
  rw [Bool.and_eq_true, decide_eq_true_eq]
  refine ⟨by simpa [PyData.canLay0] using h1, ?_⟩
  rw [PyData.depth]; omega
/-- data of parts -/
theorem parts_of : ∀ {ds : List PyData} {Good : Part → Prop}, (∀ (k : Nat) (d : PyData), ds[k]? = some d → (∃ p, Good p ∧ d = p.enc) ∧ tupD d = true) → ∃ as : List Part, ds = as.map Part.enc ∧ ∀ a ∈ as, Good a
  | [], _, _ => ⟨[], rfl, fun _ h => by simp at h⟩
  | d :: r, Good, h => by
    obtain ⟨⟨p, g, rfl⟩, _⟩ := h 0 d rfl
    obtain ⟨as, rfl, ha⟩ := parts_of (ds := r) (Good := Good) fun k x hk => h (k + 1) x (by simpa using hk)
    exact ⟨p :: as, rfl, fun a hm => (List.mem_cons.mp hm).elim (fun e => by subst e; exact g) (ha a)⟩
def t_part (K : PySem.W.Frag) (n : Nat) : TS :=
  (tSeq (tAsg (tCall spTake [] C8.E0 (tCons (tVar 0) (tCons (tC (.int 10)) tNil))) (gName 5))
    (tSeq (tIfS (tOr (tTest (tOp oLe (tVar 1) (tC (.int 0)))) (tTest (tOp rEq (tVar 5) (tC (.int 0))))) (tRet (tCall (spLeaf K) [] C8.E0 (tCons (tVar 0) (tCons (tVar 2) tNil)))) tNext)
    (tSeq (tIfS (tTest (tOp oLt (tVar 5) (tC (.int 3)))) (tRet (tCall (spFun K n) [] C8.E0 (tCons (tVar 0) (tCons (tVar 1) (tCons (tVar 2) (tCons (tVar 3) (tCons (tVar 4) tNil))))))) tNext)
    (tSeq (tIfS (tTest (tOp oLt (tVar 5) (tC (.int 5)))) (tSeq (tAsg (tOp (rIxL K) (tVar 4) (tCall spTake [] C8.E0 (tCons (tVar 0) (tCons (tCB (rLenSq K) (tCons (tVar 4) tNil)) tNil)))) (gName 6))
    (tSeq (tAsg (tCall (spPart K n) [] C8.E0 (tCons (tVar 0) (tCons (tOp oSub (tVar 1) (tC (.int 2))) (tCons (tVar 2) (tCons (tVar 3) (tCons (tVar 4) tNil)))))) (gName 7))
    (tRet (tTup (tCons (tC (.str "let")) (tCons (tVar 6) (tCons (tVar 7) (tCons (tCall (spPart K n) [] C8.E0 (tCons (tVar 0) (tCons (tOp oSub (tVar 1) (tC (.int 1))) (tCons (tOp rCat (tVar 2) (tLst (tCons (tVar 6) tNil))) (tCons (tVar 3) (tCons (tVar 4) tNil)))))) tNil)))))))) tNext)
    (tSeq (tIfS (tAnd (tTest (tOp oLt (tVar 5) (tC (.int 8)))) (tTest (tOp (rNeD K) (tVar 3) (tLst tNil)))) (tSeq (tAsg (tOp (rIxL K) (tVar 3) (tOp oSub (tOp oSub (tCB (rLenSq K) (tCons (tVar 3) tNil)) (tC (.int 1))) (tCall spTake [] C8.E0 (tCons (tVar 0) (tCons (tCB (rLenSq K) (tCons (tVar 3) tNil)) tNil))))) (gTup K 2 (gCons (gName 8) (gCons (gName 9) gNil))))
    (tRet (tTup (tCons (tC (.str "call")) (tCons (tVar 8) (tCons (tCB (rTupSq K) (tCons (tLc (iRng1 (tCons (tVar 9) tNil)) (gName 11) tYes (tCall (spPart K n) [] C8.E0 (tCons (tVar 0) (tCons (tOp oSub (tVar 1) (tC (.int 2))) (tCons (tVar 2) (tCons (tVar 3) (tCons (tVar 4) tNil)))))) [11]) tNil)) tNil)))))) tNext)
    (tSeq (tIfS (tTest (tOp rEq (tVar 5) (tC (.int 8)))) (tRet (tTup (tCons (tC (.str "say")) (tCons (tCall (spPart K n) [] C8.E0 (tCons (tVar 0) (tCons (tOp oSub (tVar 1) (tC (.int 1))) (tCons (tVar 2) (tCons (tVar 3) (tCons (tVar 4) tNil)))))) tNil)))) tNext)
    (tSeq (tAsg (tLc (iRng1 (tCons (tC (.int 2)) tNil)) (gName 11) tYes (tCall (spPart K n) [] C8.E0 (tCons (tVar 0) (tCons (tOp oSub (tVar 1) (tC (.int 2))) (tCons (tVar 2) (tCons (tVar 3) (tCons (tVar 4) tNil)))))) [11]) (gName 10))
    (tSeq (tIfS (tTest (tOp rEq (tCall spTake [] C8.E0 (tCons (tVar 0) (tCons (tC (.int 3)) tNil))) (tC (.int 1)))) (tRet (tTup (tCons (tC (.str "if")) (tCons (tOp (rIxL K) (tVar 10) (tC (.int 0))) (tCons (tOp (rIxL K) (tVar 10) (tC (.int 1))) (tCons (tCall (spLeaf K) [] C8.E0 (tCons (tVar 0) (tCons (tVar 2) tNil))) tNil)))))) tNext)
    (tRet (tTup (tCons (tOp (rIxL K) (tLst (tCons (tC (.str "add")) (tCons (tC (.str "less")) tNil))) (tCall spTake [] C8.E0 (tCons (tVar 0) (tCons (tC (.int 2)) tNil)))) (tCons (tOp (rIxL K) (tVar 10) (tC (.int 0))) (tCons (tOp (rIxL K) (tVar 10) (tC (.int 1))) tNil)))))))))))))
theorem pure_part {K : PySem.W.Frag} {n : Nat} (vs : List V) (H : Hp) (Q : VK) (E : XK) (h : spPart K (n + 1) vs H Q E) :
    t_part K n { nx := fun _ H' => Q .non H', rt := Q } (start ["box", "deep", "names", "funs", "words", "way", "word", "first", "name", "many", "some", "k"] vs) H := by
  obtain ⟨bx, il, nm, fn, w, d, names, funs, fv, ws, rfl, P, hn, k⟩ := h
  -- way
  refine ⟨_, rfl, bx, il, 10, rfl, P.box, by decide, by decide, fun way H1 w0 w1 f1 B1 => ?_⟩
  have P1 := P.fr f1 B1
  have leaf : (tRet (tCall (spLeaf K) [] C8.E0 (tCons (tVar 0) (tCons (tVar 2) tNil)))) { nx := fun _ H' => Q .non H', rt := Q }
      [some (.ref bx), some (.int d), some (.ref nm), some (.ref fn), some (.ref w), some (.int way), none, none, none, none, none, none] H1 :=
    ⟨_, rfl, _, rfl, bx, il, nm, names, rfl, P1.box, P1.nm, P1.nw, by have := P1.nl; omega, fun p v H2 g hd f2 B2 => k p v H2 (.leaf g) hd (f1.trans f2) B2⟩
  refine ⟨_, rfl, _, _, rfl, rfl, _, rfl, ?_⟩
  refine ite2 (fun _ => iteT leaf) fun hd => ?_
  have hd : 0 < d := by
    have : ¬ d ≤ 0 := of_decide_eq_false (Bool.eq_false_iff.mpr hd)
    omega
  refine ⟨_, rfl, rfl, _, rfl, ?_⟩
  refine ite2 (fun _ => leaf) fun _ => ?_
  -- a function
  refine ⟨_, rfl, _, _, rfl, rfl, _, rfl, ?_⟩
  refine ite2 (fun _ => ?_) fun _ => ?_
  · exact ⟨_, rfl, _, rfl, _, rfl, _, rfl, _, rfl, bx, il, nm, fn, w, d, names, funs, fv, ws, rfl, P1, hd, by omega, fun p v H2 g hD f2 B2 => k p v H2 g hD (f1.trans f2) B2⟩
  -- a let
  refine ⟨_, rfl, _, _, rfl, rfl, _, rfl, ?_⟩
  refine ite2 (fun _ => ?_) fun _ => ?_
  · have lw : (ws.map V.str).length = ws.length := List.length_map _
    have h3 := P1.w3
    have h5 := P1.w5
    refine ⟨_, rfl, _, rfl, _, rfl, w, _, rfl, .inl P1.w.sq, bx, il, _, rfl, P1.box, by rw [lw]; omega, by rw [lw]; omega, fun r H2 r0 r1 f2 B2 => ?_⟩
    have P2 := P1.fr f2 B2
    obtain ⟨y, hy, hy2⟩ := atI_int (l := ws.map V.str) r0 r1
    obtain ⟨x, hx, rfl⟩ := map_at hy2
    have hxm := List.mem_of_getElem? hx
    refine ⟨w, _, _, _, rfl, rfl, P2.w.sq, hy, ?_⟩
    refine ⟨_, rfl, _, rfl, _, _, rfl, rfl, _, rfl, _, rfl, _, rfl, bx, il, nm, fn, w, d - 2, names, funs, fv, ws, rfl, P2.down (by omega) (by omega), by omega, fun p1 v1 H3 g1 d1 f3 B3 => ?_⟩
    have P3 := P2.fr f3 B3
    refine ⟨_, rfl, _, rfl, _, rfl, _, rfl, _, _, rfl, rfl, _, rfl, _, rfl, one_sz (by show 1 ≤ 1000; decide), fun q hq => ?_⟩
    have P4 := P3.new (o := .lst [.str x]) hq
    have hnq : nm ≠ q := ne_of_none P3.nm.1 hq
    refine ⟨nm, q, _, _, rfl, rfl, P4.nm.1, upd_same, ?_, fun q2 hq2 => ?_⟩
    · have := P4.nl
      exact one_sz (by simp only [List.length_map, List.length_singleton]; omega)
    have P5 := P4.addN (p := q2) (xs := [x]) (d' := d - 1) hq2 (fun z hz => by rw [List.mem_singleton.mp hz]; exact P.ww x hxm) (by show 1 ≤ 5; decide) (by omega) (by omega)
    refine ⟨_, rfl, _, rfl, bx, il, q2, fn, w, d - 1, names ++ [x], funs, fv, ws, rfl, P5, by omega, fun p2 v2 H6 g2 d2 f6 B6 => ⟨one_sz (by show 4 ≤ 1000; decide), fun t ht => ?_⟩⟩
    have f36 : Fr (cB bx il) H3 H6 := ((Fr.new hq).trans (Fr.new hq2)).trans f6
    refine k (.lt x p1 p2) _ _ (.lt hd hxm g1 g2) (.tup (SqT.of upd_same) (.cons (.str _) (.cons (.str _) (.cons ?_ (.cons ?_ .nil))))) ((((f1.trans f2).trans f3).trans f36).trans (Fr.new ht)) (B6.new ht)
    · exact Dp.fr ((f36.trans (Fr.new ht)) : Fr (cB bx il) _ _) _ _ (tup_enc p1) d1
    · exact Dp.fr (Fr.new (C := c0) ht) _ _ (tup_enc p2) d2
  -- what follows a call that is none
  have rest : ∀ H2, Fr (cB bx il) H H2 → GenPre K H2 bx il d nm fn w names funs fv ws →
      (tSeq (tIfS (tTest (tOp rEq (tVar 5) (tC (.int 8)))) (tRet (tTup (tCons (tC (.str "say")) (tCons (tCall (spPart K n) [] C8.E0 (tCons (tVar 0) (tCons (tOp oSub (tVar 1) (tC (.int 1))) (tCons (tVar 2) (tCons (tVar 3) (tCons (tVar 4) tNil)))))) tNil)))) tNext)
    (tSeq (tAsg (tLc (iRng1 (tCons (tC (.int 2)) tNil)) (gName 11) tYes (tCall (spPart K n) [] C8.E0 (tCons (tVar 0) (tCons (tOp oSub (tVar 1) (tC (.int 2))) (tCons (tVar 2) (tCons (tVar 3) (tCons (tVar 4) tNil)))))) [11]) (gName 10))
    (tSeq (tIfS (tTest (tOp rEq (tCall spTake [] C8.E0 (tCons (tVar 0) (tCons (tC (.int 3)) tNil))) (tC (.int 1)))) (tRet (tTup (tCons (tC (.str "if")) (tCons (tOp (rIxL K) (tVar 10) (tC (.int 0))) (tCons (tOp (rIxL K) (tVar 10) (tC (.int 1))) (tCons (tCall (spLeaf K) [] C8.E0 (tCons (tVar 0) (tCons (tVar 2) tNil))) tNil)))))) tNext)
    (tRet (tTup (tCons (tOp (rIxL K) (tLst (tCons (tC (.str "add")) (tCons (tC (.str "less")) tNil))) (tCall spTake [] C8.E0 (tCons (tVar 0) (tCons (tC (.int 2)) tNil)))) (tCons (tOp (rIxL K) (tVar 10) (tC (.int 0))) (tCons (tOp (rIxL K) (tVar 10) (tC (.int 1))) tNil)))))))) { nx := fun _ H' => Q .non H', rt := Q }
      [some (.ref bx), some (.int d), some (.ref nm), some (.ref fn), some (.ref w), some (.int way), none, none, none, none, none, none] H2 := fun H2 f2 P2 => by
    refine ⟨_, rfl, rfl, _, rfl, ?_⟩
    refine ite2 (fun _ => ?_) fun _ => ?_
    · -- say
      refine ⟨_, rfl, _, rfl, _, _, rfl, rfl, _, rfl, _, rfl, _, rfl, bx, il, nm, fn, w, d - 1, names, funs, fv, ws, rfl, P2.down (by omega) (by omega), by omega, fun p1 v1 H3 g1 d1 f3 B3 => ⟨one_sz (by show 2 ≤ 1000; decide), fun t ht => ?_⟩⟩
      exact k (.say p1) _ _ (.say hd g1) (.tup (SqT.of upd_same) (.cons (.str _) (.cons (Dp.fr (Fr.new (C := c0) ht) _ _ (tup_enc p1) d1) .nil))) ((f2.trans f3).trans (Fr.new ht)) (B3.new ht)
    -- two
    refine ⟨2, rfl, by decide, by decide, ?_⟩
    refine lcG_range (K := K) (n := 2) (C := cB bx il) (I := fun H => Box H bx il) (Good := fun _ dd => ∃ p, Gen ws (d - 2) names funs p ∧ dd = p.enc) (box_up P2.box) (box_no P2.box) P2.box (by decide) (fun i hi H' f' B' Q' hQ => ?_) fun D vs ds H' hD e da dl dg df dB => ?_
    · have P' := P2.fr f' B'
      exact ⟨_, rfl, _, rfl, _, _, rfl, rfl, _, rfl, _, rfl, _, rfl, bx, il, nm, fn, w, d - 2, names, funs, fv, ws, rfl, P'.down (by omega) (by omega), by omega, fun p v H'' g hD f B => hQ p.enc v H'' ⟨p, g, rfl⟩ (tup_enc p) hD f B⟩
    obtain ⟨as, rfl, ha⟩ := parts_of dg
    match as, dl, ha, da with
    | [a1, a2], _, ha, da =>
      cases da with
      | @cons v1 _ _ _ e1 r1 =>
        cases r1 with
        | @cons v2 _ _ _ e2 r2 =>
          cases r2
          have g1 := ha a1 (by simp)
          have g2 := ha a2 (by simp)
          have LD : Ls H' bx il D [v1, v2] := ⟨e, fun z => box_no P2.box D (.lst []) hD (Or.inl z), fun z => box_no P2.box D (.lst []) hD (Or.inr z)⟩
          have P' := P2.fr df dB
          refine ⟨_, rfl, bx, il, 3, rfl, dB, by decide, by decide, fun r H3 r0 r1 f3 B3 => ⟨rfl, _, rfl, ?_⟩⟩
          have P3 := P'.fr f3 B3
          have L3 := LD.fr f3
          refine ite2 (fun _ => ?_) fun _ => ?_
          · -- if
            refine ⟨_, rfl, D, _, _, _, rfl, rfl, L3.sq, rfl, _, rfl, D, _, _, _, rfl, rfl, L3.sq, rfl, _, rfl, _, rfl, bx, il, nm, names, rfl, B3, P3.nm, P3.nw, by have := P3.nl; omega, fun p3 v3 H4 g3 d3 f4 B4 => ⟨one_sz (by show 4 ≤ 1000; decide), fun t ht => ?_⟩⟩
            have ft : Fr (cB bx il) H' (upd H4 t (.tup [.str "if", v1, v2, v3])) := (f3.trans f4).trans (Fr.new ht)
            exact k (.ite a1 a2 p3) _ _ (.ite hd g1 g2 g3) (.tup (SqT.of upd_same) (.cons (.str _) (.cons (Dp.fr ft _ _ (tup_enc a1) e1) (.cons (Dp.fr ft _ _ (tup_enc a2) e2) (.cons (Dp.fr (Fr.new (C := c0) ht) _ _ (tup_enc p3) d3) .nil))))) ((f2.trans df).trans ft) (B4.new ht)
          · refine ⟨one_sz (by show 2 ≤ 1000; decide), fun q hq => ?_⟩
            have Lq : Ls _ bx il q [.str "add", .str "less"] := Ls.new B3 hq
            have L4 := L3.fr (Fr.new (o := .lst [.str "add", .str "less"]) hq)
            refine ⟨_, rfl, bx, il, 2, rfl, B3.new hq, by decide, by decide, fun z H5 z0 z1 f5 B5 => ?_⟩
            have f15 : Fr (cB bx il) H' H5 := (f3.trans (Fr.new hq)).trans f5
            have Lq5 := Lq.fr f5
            have L5 := L4.fr f5
            have hz : z = 0 ∨ z = 1 := by omega
            rcases hz with rfl | rfl
            · refine ⟨q, _, _, _, rfl, rfl, Lq5.sq, rfl, _, rfl, D, _, _, _, rfl, rfl, L5.sq, rfl, _, rfl, D, _, _, _, rfl, rfl, L5.sq, rfl, one_sz (by show 3 ≤ 1000; decide), fun t ht => ?_⟩
              have ft : Fr (cB bx il) H' (upd H5 t (.tup [.str "add", v1, v2])) := f15.trans (Fr.new ht)
              exact k (.add a1 a2) _ _ (.add hd g1 g2) (.tup (SqT.of upd_same) (.cons (.str _) (.cons (Dp.fr ft _ _ (tup_enc a1) e1) (.cons (Dp.fr ft _ _ (tup_enc a2) e2) .nil)))) ((f2.trans df).trans ft) (B5.new ht)
            · refine ⟨q, _, _, _, rfl, rfl, Lq5.sq, rfl, _, rfl, D, _, _, _, rfl, rfl, L5.sq, rfl, _, rfl, D, _, _, _, rfl, rfl, L5.sq, rfl, one_sz (by show 3 ≤ 1000; decide), fun t ht => ?_⟩
              have ft : Fr (cB bx il) H' (upd H5 t (.tup [.str "less", v1, v2])) := f15.trans (Fr.new ht)
              exact k (.less a1 a2) _ _ (.less hd g1 g2) (.tup (SqT.of upd_same) (.cons (.str _) (.cons (Dp.fr ft _ _ (tup_enc a1) e1) (.cons (Dp.fr ft _ _ (tup_enc a2) e2) .nil)))) ((f2.trans df).trans ft) (B5.new ht)
  -- a call
  refine ⟨_, rfl, _, _, rfl, rfl, _, rfl, ?_⟩
  refine ite2 (fun _ => ?_) fun _ => rest H1 f1 P1
  refine ⟨_, rfl, one_sz (Nat.zero_le _), fun p hp => ?_⟩
  have P2 := P1.new (o := .lst []) hp
  have f2 : Fr (cB bx il) H (upd H1 p (.lst [])) := f1.trans (Fr.new hp)
  refine ⟨.list (funs.map encF), .list [], .lst P2.fn.sq P2.fd, .lst (SqL.of upd_same) .nil, shaped_F P.fw, rfl, _, rfl, ?_⟩
  rw [eqv_lists_nil]
  cases hf : funs.map encF with
  | nil => exact iteF (rest _ f2 P2)
  | cons e0 r0 =>
    refine iteT ?_
    have lf : fv.length = funs.length := by rw [P2.fd.len, List.length_map]
    have lpos : 0 < funs.length := by
      have := congrArg List.length hf
      rw [List.length_map, List.length_cons] at this
      omega
    have lmax := P.fl
    refine ⟨_, rfl, _, rfl, fn, _, rfl, .inl P2.fn.sq, _, _, rfl, rfl, _, rfl, _, rfl, fn, _, rfl, .inl P2.fn.sq, bx, il, _, rfl, P2.box, by omega, by omega, fun z H3 z0 z1 f3 B3 => ?_⟩
    have P3 := P2.fr f3 B3
    obtain ⟨y, hy, hy2⟩ := atI_int (l := fv) (i := (fv.length : Int) - 1 - z) (by omega) (by omega)
    obtain ⟨dd, hdd, Dy⟩ := P3.fd.getV hy2
    obtain ⟨⟨f, m⟩, hfm, rfl⟩ := map_at hdd
    have hmem := List.mem_of_getElem? hfm
    obtain ⟨t, xs, rfl, hT, hxs⟩ := Dy.tup_inv
    cases hxs with
    | @cons u1 _ _ _ q1 r1 =>
      cases r1 with
      | @cons u2 _ _ _ q2 r2 =>
        cases r2
        cases q1
        cases q2
        have m4 : m ≤ 4 := P.ar _ hmem
        refine ⟨_, _, rfl, rfl, fn, _, _, _, rfl, rfl, P3.fn.sq, hy, t, _, rfl, hT, rfl, _, _, rfl, _, _, rfl, rfl, ?_⟩
        refine ⟨_, rfl, _, rfl, (m : Int), rfl, by omega, by omega, ?_⟩
        refine lcG_range (K := K) (n := m) (C := cB bx il) (I := fun H => Box H bx il) (Good := fun _ dd => ∃ p, Gen ws (d - 2) names funs p ∧ dd = p.enc) (box_up P3.box) (box_no P3.box) P3.box (by omega) (fun i hi H' f' B' Q' hQ => ?_) fun D vs ds H' hD e da dl dg df dB => ?_
        · have P' := P3.fr f' B'
          exact ⟨_, rfl, _, rfl, _, _, rfl, rfl, _, rfl, _, rfl, _, rfl, bx, il, nm, fn, w, d - 2, names, funs, fv, ws, rfl, P'.down (by omega) (by omega), by omega, fun p v H'' g hD f B => hQ p.enc v H'' ⟨p, g, rfl⟩ (tup_enc p) hD f B⟩
        obtain ⟨as, rfl, ha⟩ := parts_of dg
        rw [List.length_map] at dl
        subst dl
        refine ⟨D, _, rfl, .inl ⟨SqL.of e, fun l hl => ⟨one_sz (by show 3 ≤ 1000; decide), fun t2 ht2 => ?_⟩⟩⟩
        have fl : Fr (cB bx il) H' (upd H' l (.tup vs)) := Fr.new hl
        have fl2 : Fr (cB bx il) (upd H' l (.tup vs)) (upd (upd H' l (.tup vs)) t2 (.tup [.str "call", .str f, .ref l])) := Fr.new ht2
        have td : tupDs (as.map Part.enc) = true := tupDs_all fun x hx => by
          obtain ⟨a, _, rfl⟩ := List.mem_map.mp hx
          exact tup_enc a
        refine k (.call f (Parts.of as)) _ _ (.call hd hmem ha) (.tup (SqT.of upd_same) (.cons (.str _) (.cons (.str _) (.cons ?_ .nil)))) ((((f2.trans f3).trans df).trans fl).trans fl2) ((dB.new hl).new ht2)
        rw [Parts.encs_of]
        exact .tup (fl2.sqT (SqT.of upd_same)) (Dp.frs fl2 _ _ td (Dp.frs fl _ _ td da))
end BN
namespace BN
open PySem L2 PyProof.Rows
theorem cut_to {xs : List V} {r : Int} (h0 : 0 ≤ r) (h1 : r ≤ xs.length) : cutV xs none (some r) = xs.take r.toNat := by
  unfold cutV
  have e : r = ((r.toNat : Nat) : Int) := by omega
  rw [HT.sIx_none, e, HT.sIx_nat, List.drop_zero]
  congr 1
  simp only [Int.toNat_natCast]
  omega
theorem cut_from {xs : List V} (k : Nat) (h : k ≤ xs.length) : cutV xs (some (k : Int)) none = xs.drop k := by
  unfold cutV
  rw [HT.sIx_none, HT.sIx_nat, Nat.min_eq_left h]
  rw [List.take_of_length_le]
  rw [List.length_drop]
  omega
def t_fun (K : PySem.W.Frag) (n : Nat) : TS :=
  (tSeq (tAsg (tOp (rIxL K) (tVar 4) (tCall spTake [] C8.E0 (tCons (tVar 0) (tCons (tC (.int 3)) tNil)))) (gName 5))
    (tSeq (tAsg (tSl (rSlL K) (tVar 4) tNoPart (tPart (tCall spTake [] C8.E0 (tCons (tVar 0) (tCons (tCB (rLenSq K) (tCons (tVar 4) tNil)) tNil))))) (gName 6))
    (C8.tCut (tIfS (tTest (tOp rEq (tCall spTake [] C8.E0 (tCons (tVar 0) (tCons (tC (.int 3)) tNil))) (tC (.int 1)))) (tAsg (tRevL K (tVar 6)) (gName 6)) tNext) (tSeq (tAsg (tCall (spPart K n) [] C8.E0 (tCons (tVar 0) (tCons (tOp oSub (tVar 1) (tC (.int 1))) (tCons (tOp rCat (tVar 2) (tVar 6)) (tCons (tVar 3) (tCons (tVar 4) tNil)))))) (gName 7))
    (tSeq (tAsg (tOp rCat (tLc (iList K (tVar 3)) (gName 12) (tTest (tOp rNe (tOp (rIxT K) (tVar 12) (tC (.int 0))) (tVar 5))) (tVar 12) [12]) (tLst (tCons (tTup (tCons (tVar 5) (tCons (tCB (rLenSq K) (tCons (tVar 6) tNil)) tNil))) tNil))) (gName 8))
    (tSeq (tAsg (tCall (spPart K n) [] C8.E0 (tCons (tVar 0) (tCons (tOp oSub (tVar 1) (tC (.int 1))) (tCons (tVar 2) (tCons (tVar 8) (tCons (tVar 4) tNil)))))) (gName 9))
    (tSeq (tIfS (tTest (tOp oGt (tCall spTake [] C8.E0 (tCons (tVar 0) (tCons (tC (.int 3)) tNil))) (tC (.int 0)))) (tSeq (tAsg (tOp (rIxL K) (tVar 4) (tCall spTake [] C8.E0 (tCons (tVar 0) (tCons (tCB (rLenSq K) (tCons (tVar 4) tNil)) tNil)))) (gName 10))
    (tSeq (tAsg (tTup (tCons (tC (.str "call")) (tCons (tVar 5) (tCons (tCB (rTupSq K) (tCons (tLc (iList K (tVar 6)) (gName 13) tYes (tCall (spLeaf K) [] C8.E0 (tCons (tVar 0) (tCons (tVar 2) tNil))) [13]) tNil)) tNil)))) (gName 11))
    (tAsg (tTup (tCons (tC (.str "add")) (tCons (tVar 9) (tCons (tTup (tCons (tC (.str "let")) (tCons (tVar 10) (tCons (tCall (spLeaf K) [] C8.E0 (tCons (tVar 0) (tCons (tVar 2) tNil))) (tCons (tVar 11) tNil))))) tNil)))) (gName 9)))) tNext)
    (tRet (tTup (tCons (tC (.str "fun")) (tCons (tVar 5) (tCons (tCB (rTupSq K) (tCons (tVar 6) tNil)) (tCons (tVar 7) (tCons (tVar 9) tNil))))))))))))))
theorem pure_fun {K : PySem.W.Frag} {n : Nat} (vs : List V) (H : Hp) (Q : VK) (E : XK) (h : spFun K n vs H Q E) :
    t_fun K n { nx := fun _ H' => Q .non H', rt := Q } (start ["box", "deep", "names", "funs", "words", "name", "params", "body", "known", "rest", "word", "call", "fun", "param"] vs) H := by
  obtain ⟨bx, il, nm, fn, w, d, names, funs, fv, ws, rfl, P, hd, hn, k⟩ := h
  have lw : (ws.map V.str).length = ws.length := List.length_map _
  have h3 := P.w3
  have h5 := P.w5
  -- name
  refine ⟨_, rfl, _, rfl, bx, il, 3, rfl, P.box, by decide, by decide, fun r1 H1 r10 r11 f1 B1 => ?_⟩
  have P1 := P.fr f1 B1
  obtain ⟨y, hy, hy2⟩ := atI_int (l := ws.map V.str) r10 (by rw [lw]; omega)
  obtain ⟨f, hf, rfl⟩ := map_at hy2
  have hfm := List.mem_of_getElem? hf
  refine ⟨w, _, _, _, rfl, rfl, P1.w.sq, hy, ?_⟩
  -- params
  refine ⟨_, rfl, _, rfl, _, rfl, w, _, rfl, .inl P1.w.sq, bx, il, _, rfl, P1.box, by rw [lw]; omega, by rw [lw]; omega, fun r2 H2 r20 r21 f2 B2 => ?_⟩
  have P2 := P1.fr f2 B2
  refine ⟨_, rfl, w, _, rfl, P2.w.sq, fun pa0 hpa0 => ?_⟩
  rw [lw] at r21
  rw [cut_to r20 (by rw [lw]; omega), ← List.map_take]
  have P3 := P2.new (o := .lst ((ws.take r2.toNat).map V.str)) hpa0
  have L3 : Ls (upd H2 pa0 (.lst ((ws.take r2.toNat).map V.str))) bx il pa0 ((ws.take r2.toNat).map V.str) := Ls.new P2.box hpa0
  have f3 : Fr (cB bx il) H (upd H2 pa0 (.lst ((ws.take r2.toNat).map V.str))) := (f1.trans f2).trans (Fr.new hpa0)
  have nd0 : (ws.take r2.toNat).Nodup := (List.take_sublist _ _).nodup P.wd
  have mm0 : ∀ x ∈ ws.take r2.toNat, x ∈ ws := fun x hx => List.mem_of_mem_take hx
  have ln0 : (ws.take r2.toNat).length ≤ 4 := by rw [List.length_take]; omega
  refine ⟨fun σ H' => ∃ (pa : Addr) (ps : List Str), σ = [some (.ref bx), some (.int d), some (.ref nm), some (.ref fn), some (.ref w), some (.str f), some (.ref pa), none, none, none, none, none, none, none] ∧
    Ls H' bx il pa (ps.map V.str) ∧ ps.Nodup ∧ (∀ x ∈ ps, x ∈ ws) ∧ ps.length ≤ 4 ∧ Fr (cB bx il) H H' ∧ Box H' bx il, ?_, ?_⟩
  · refine ⟨_, rfl, bx, il, 3, rfl, P3.box, by decide, by decide, fun r3 H4 r30 r31 f4 B4 => ⟨rfl, _, rfl, ?_⟩⟩
    have L4 := L3.fr f4
    refine ite2 (fun _ => ?_) fun _ => ?_
    · refine ⟨_, rfl, pa0, _, rfl, L4.sq, fun q hq => ?_⟩
      rw [← List.map_reverse]
      exact ⟨q, (ws.take r2.toNat).reverse, rfl, Ls.new B4 hq, (List.reverse_perm _).nodup_iff.mpr nd0, fun x hx => mm0 x (List.mem_reverse.mp hx), by rw [List.length_reverse]; exact ln0, (f3.trans f4).trans (Fr.new hq), B4.new hq⟩
    · exact ⟨pa0, _, rfl, L4, nd0, mm0, ln0, f3.trans f4, B4⟩
  rintro σ H4 ⟨pa, ps, rfl, L4, nd, mm, ln, f4, B4⟩
  have P4 := P.fr f4 B4
  have hw : ∀ x ∈ ps, wordB x = true := fun x hx => P.ww x (mm x hx)
  -- the body
  refine ⟨_, rfl, _, rfl, _, _, rfl, rfl, _, rfl, _, rfl, nm, pa, _, _, rfl, rfl, P4.nm.1, L4.1, ?_, fun q hq => ?_⟩
  · have := P.nl
    exact one_sz (by simp only [List.length_map]; omega)
  have P5 := P4.addN (p := q) (xs := ps) (d' := d - 1) hq hw (by omega) (by omega) (by omega)
  refine ⟨_, rfl, _, rfl, bx, il, q, fn, w, d - 1, names ++ ps, funs, fv, ws, rfl, P5, by omega, fun pb vb H6 gb db f6 B6 => ?_⟩
  have f06 : Fr (cB bx il) H4 H6 := (Fr.new hq).trans f6
  have P6 := P4.fr f06 B6
  have L6 := L4.fr f06
  -- known
  refine ⟨_, rfl, fn, rfl, ⟨_, P6.fn.sq⟩, fun D hD => ?_⟩
  have nfD : fn ≠ D := ne_of_none P6.fn.1 hD
  have fD : ∀ acc, Fr (cB bx il) H6 (upd H6 D (.lst acc)) := fun acc => Fr.new hD
  have flen : fv.length = funs.length := by rw [P6.fd.len, List.length_map]
  refine lc_list (K := K) (a := fn) (xs := fv) (fun i H' => ∃ acc, H' = upd H6 D (.lst acc) ∧ DpAll K H6 acc (((funs.take i).filter (fun e => !decide (e.1 = f))).map encF)) ⟨[], rfl, .nil⟩ (fun i H' _ ⟨acc, e, _⟩ => by
    subst e
    exact SqL.of (by rw [upd_ne nfD]; exact P6.fn.1)) ?_ ?_
  · rintro i x H' hi ⟨acc, rfl, da⟩
    obtain ⟨dd, hdd, Dx⟩ := P6.fd.getV hi
    obtain ⟨⟨g, m⟩, hgm, rfl⟩ := map_at hdd
    obtain ⟨t, xs, rfl, hT, hxs⟩ := Dx.tup_inv
    have hT' : SqT K (upd H6 D (.lst acc)) t xs := (fD acc).sqT hT
    cases hxs with
    | @cons u1 _ _ _ q1 r1 =>
      cases r1 with
      | @cons u2 _ _ _ q2 r2 =>
        cases r2
        cases q1
        cases q2
        have step : (funs.take (i + 1)).filter (fun e => !decide (e.1 = f)) = (funs.take i).filter (fun e => !decide (e.1 = f)) ++ (if g = f then [] else [(g, m)]) := by
          rw [take_more hgm, List.filter_append]
          congr 1
          by_cases e : g = f <;> simp [e]
        refine ⟨rfl, _, rfl, t, _, _, _, rfl, rfl, hT', rfl, _, rfl, rfl, _, rfl, ?_⟩
        by_cases e : g = f
        · have e2 : (!decide (V.str g = V.str f)) = false := by rw [e]; simp
          rw [e2]
          refine iteF ⟨acc, rfl, ?_⟩
          rw [step, if_pos e, List.append_nil]
          exact da
        · have e2 : (!decide (V.str g = V.str f)) = true := by
            rw [decide_eq_false fun z => e (V.str.inj z)]; rfl
          rw [e2]
          refine iteT ⟨_, rfl, acc, upd_same, ?_, acc ++ [.ref t], by rw [upd_upd], ?_⟩
          · rw [da.len, List.length_map]
            have := List.length_filter_le (fun e : Str × Nat => !decide (e.1 = f)) (funs.take i)
            have h2 : (funs.take i).length ≤ funs.length := by rw [List.length_take]; omega
            have h3 := P.fl
            exact small1000 (by omega)
          · rw [step, if_neg e, List.map_append]
            exact da.append (.cons Dx .nil)
  rintro H7 ⟨acc, rfl, da⟩
  rw [flen, List.take_length] at da
  -- [(name, len(params))]
  have LD : Ls (upd H6 D (.lst acc)) bx il D acc := Ls.new P6.box hD
  have L7 := L6.fr (fD acc)
  refine ⟨_, rfl, _, rfl, pa, _, rfl, .inl L7.sq, one_sz (by show 2 ≤ 1000; decide), fun t ht => ⟨one_sz (by show 1 ≤ 1000; decide), fun l hl => ?_⟩⟩
  have B8 := ((P6.box.new (o := .lst acc) hD).new (o := .tup [.str f, .int ((ps.map V.str).length : Nat)]) ht)
  have LD8 := (LD.fr (Fr.new (o := .tup [.str f, .int ((ps.map V.str).length : Nat)]) ht))
  have LD9 := LD8.fr (Fr.new (o := .lst [.ref t]) hl)
  refine ⟨D, l, _, _, rfl, rfl, LD9.1, upd_same, ?_, fun kn hkn => ?_⟩
  · have := da.len
    rw [List.length_map] at this
    have h2 := List.length_filter_le (fun e : Str × Nat => !decide (e.1 = f)) funs
    have h3 := P.fl
    exact one_sz (by simp only [List.length_singleton]; omega)
  have f9 : Fr (cB bx il) H6 (upd (upd (upd (upd H6 D (.lst acc)) t (.tup [.str f, .int ((ps.map V.str).length : Nat)])) l (.lst [.ref t])) kn (.lst (acc ++ [.ref t]))) :=
    (((fD acc).trans (Fr.new ht)).trans (Fr.new hl)).trans (Fr.new hkn)
  have B9 := (B8.new (o := .lst [.ref t]) hl)
  have B10 := B9.new (o := .lst (acc ++ [.ref t])) hkn
  have P10 := P6.fr f9 B10
  have Lk : Ls (upd (upd (upd (upd H6 D (.lst acc)) t (.tup [.str f, .int ((ps.map V.str).length : Nat)])) l (.lst [.ref t])) kn (.lst (acc ++ [.ref t]))) bx il kn (acc ++ [.ref t]) := Ls.new B9 hkn
  have dk : DpAll K (upd (upd (upd (upd H6 D (.lst acc)) t (.tup [.str f, .int ((ps.map V.str).length : Nat)])) l (.lst [.ref t])) kn (.lst (acc ++ [.ref t]))) (acc ++ [.ref t]) ((known funs f ps.length).map encF) := by
    unfold known
    rw [List.map_append]
    refine (Dp.frs f9 _ _ (tupDs_F _) da).append (.cons ?_ .nil)
    refine .tup ((((Fr.new hl).trans (Fr.new hkn)) : Fr (cB bx il) _ _).sqT (SqT.of upd_same)) (.cons (.str _) (.cons ?_ .nil))
    rw [List.length_map]
    exact .int _
  have P11 := P10.addF (d' := d - 1) Lk dk (fun e he => by
    rcases List.mem_append.mp he with h | h
    · exact P.fw e (List.mem_filter.mp h).1
    · rw [List.mem_singleton.mp h]; exact P.ww f hfm) (fun e he => by
    rcases List.mem_append.mp he with h | h
    · exact P.ar e (List.mem_filter.mp h).1
    · rw [List.mem_singleton.mp h]; exact ln) (known_len _ _ _) (by omega) (by omega)
  -- the rest
  refine ⟨_, rfl, _, rfl, _, _, rfl, rfl, _, rfl, _, rfl, _, rfl, bx, il, nm, kn, w, d - 1, names, known funs f ps.length, _, ws, rfl, P11, by omega, fun pr vr H12 gr dr f12 B12 => ?_⟩
  have f612 : Fr (cB bx il) H6 H12 := f9.trans f12
  have f012 : Fr (cB bx il) H H12 := (f4.trans f06).trans f612
  have P12 := P6.fr f612 B12
  have L12 := L6.fr f612
  have db12 := Dp.fr f612 _ _ (tup_enc pb) db
  have fin : ∀ (H' : Hp) (q : Part) (v : V) (s10 s11 : Option V), Gen ws d names funs (.fn f ps pb q) → Dp K H' v q.enc → Fr (cB bx il) H12 H' → Box H' bx il →
      (tRet (tTup (tCons (tC (.str "fun")) (tCons (tVar 5) (tCons (tCB (rTupSq K) (tCons (tVar 6) tNil)) (tCons (tVar 7) (tCons (tVar 9) tNil))))))) { nx := fun _ H' => Q .non H', rt := Q }
      [some (.ref bx), some (.int d), some (.ref nm), some (.ref fn), some (.ref w), some (.str f), some (.ref pa), some vb, some (.ref kn), some v, s10, s11, none, none] H' := fun H' q v s10 s11 g dv ff BB => by
    have L' := L12.fr ff
    refine ⟨_, rfl, _, rfl, pa, _, rfl, .inl ⟨L'.sq, fun tp htp => ⟨_, rfl, _, rfl, one_sz (by show 5 ≤ 1000; decide), fun t2 ht2 => ?_⟩⟩⟩
    have g1 : Fr (cB bx il) H' (upd H' tp (.tup (ps.map V.str))) := Fr.new htp
    have g2 : Fr (cB bx il) (upd H' tp (.tup (ps.map V.str))) (upd (upd H' tp (.tup (ps.map V.str))) t2 (.tup [.str "fun", .str f, .ref tp, vb, v])) := Fr.new ht2
    exact k _ _ _ g (.tup (SqT.of upd_same) (.cons (.str _) (.cons (.str _) (.cons (.tup (g2.sqT (SqT.of upd_same)) (DpAll.strs ps)) (.cons (Dp.fr (ff.trans (g1.trans g2)) _ _ (tup_enc pb) db12) (.cons (Dp.fr (g1.trans g2) _ _ (tup_enc q) dv) .nil))))))
      (((f012.trans ff).trans g1).trans g2) ((BB.new htp).new ht2)
  -- a call behind it
  refine ⟨_, rfl, bx, il, 3, rfl, P12.box, by decide, by decide, fun r4 H13 r40 r41 f13 B13 => ⟨_, _, rfl, rfl, _, rfl, ?_⟩⟩
  have P13 := P12.fr f13 B13
  have L13 := L12.fr f13
  have dr13 := Dp.fr f13 _ _ (tup_enc pr) dr
  refine ite2 (fun _ => ?_) fun _ => fin H13 pr vr none none (.fn hd hfm nd mm ln gb gr) dr13 f13 B13
  refine ⟨_, rfl, _, rfl, _, rfl, w, _, rfl, .inl P13.w.sq, bx, il, _, rfl, P13.box, by rw [lw]; omega, by rw [lw]; omega, fun r5 H14 r50 r51 f14 B14 => ?_⟩
  have P14 := P13.fr f14 B14
  have L14 := L13.fr f14
  obtain ⟨y5, hy5, hy52⟩ := atI_int (l := ws.map V.str) r50 r51
  obtain ⟨wd, hwd, rfl⟩ := map_at hy52
  have hwm := List.mem_of_getElem? hwd
  refine ⟨w, _, _, _, rfl, rfl, P14.w.sq, hy5, ?_⟩
  -- ("call", name, tuple([..]))
  refine ⟨_, rfl, _, rfl, pa, rfl, ⟨_, L14.sq⟩, ?_⟩
  refine lcG_list (K := K) (a := pa) (xs := ps.map V.str) (C := cB bx il) (I := fun H => Box H bx il) (Good := fun _ dd => ∃ p, Leaf names p ∧ dd = p.enc) L14.sq (fun _ z => z.elim L14.2.1 L14.2.2) (box_up B14) (box_no B14) B14 (by rw [List.length_map]; omega) (fun i x hi H' f' B' Q' hQ => ?_) fun D2 vs ds H15 hD2 e da2 dl dg f15 B15 => ?_
  · have P' := P14.fr f' B'
    exact ⟨_, rfl, _, rfl, bx, il, nm, names, rfl, B', P'.nm, P'.nw, by have := P'.nl; omega, fun p v H'' g hD f B => hQ p.enc v H'' ⟨p, g, rfl⟩ (tup_enc p) hD f B⟩
  obtain ⟨as, rfl, ha⟩ := parts_of dg
  rw [List.length_map, List.length_map] at dl
  refine ⟨D2, _, rfl, .inl ⟨SqL.of e, fun l2 hl2 => ⟨one_sz (by show 3 ≤ 1000; decide), fun t2 ht2 => ?_⟩⟩⟩
  have g1 : Fr (cB bx il) H15 (upd H15 l2 (.tup vs)) := Fr.new hl2
  have g2 : Fr (cB bx il) (upd H15 l2 (.tup vs)) (upd (upd H15 l2 (.tup vs)) t2 (.tup [.str "call", .str f, .ref l2])) := Fr.new ht2
  have td : tupDs (as.map Part.enc) = true := tupDs_all fun x hx => by
    obtain ⟨a, _, rfl⟩ := List.mem_map.mp hx
    exact tup_enc a
  have dc : Dp K (upd (upd H15 l2 (.tup vs)) t2 (.tup [.str "call", .str f, .ref l2])) (.ref t2) (Part.call f (Parts.of as)).enc := by
    refine .tup (SqT.of upd_same) (.cons (.str _) (.cons (.str _) (.cons ?_ .nil)))
    rw [Parts.encs_of]
    exact .tup (g2.sqT (SqT.of upd_same)) (Dp.frs g2 _ _ td (Dp.frs g1 _ _ td da2))
  have B16 := (B15.new (o := .tup vs) hl2).new (o := .tup [.str "call", .str f, .ref l2]) ht2
  have f16 : Fr (cB bx il) H14 (upd (upd H15 l2 (.tup vs)) t2 (.tup [.str "call", .str f, .ref l2])) := (f15.trans g1).trans g2
  have P16 := P14.fr f16 B16
  -- ("add", rest, ("let", word, leaf, call))
  refine ⟨_, rfl, _, rfl, _, rfl, _, rfl, bx, il, nm, names, rfl, B16, P16.nm, P16.nw, by have := P16.nl; omega, fun pl vl H17 gl dl17 f17 B17 => ?_⟩
  refine ⟨_, rfl, one_sz (by show 4 ≤ 1000; decide), fun t3 ht3 => ⟨one_sz (by show 3 ≤ 1000; decide), fun t4 ht4 => ?_⟩⟩
  have g3 : Fr (cB bx il) H17 (upd H17 t3 (.tup [.str "let", .str wd, vl, .ref t2])) := Fr.new ht3
  have g4 : Fr (cB bx il) (upd H17 t3 (.tup [.str "let", .str wd, vl, .ref t2])) (upd (upd H17 t3 (.tup [.str "let", .str wd, vl, .ref t2])) t4 (.tup [.str "add", vr, .ref t3])) := Fr.new ht4
  refine fin _ (.add pr (.lt wd pl (.call f (Parts.of as)))) (.ref t4) _ _ (.fnc hd hfm nd mm ln gb gr hwm gl ha dl) ?_ ((((f13.trans f14).trans f16).trans f17).trans (g3.trans g4)) ((B17.new ht3).new ht4)
  refine .tup (SqT.of upd_same) (.cons (.str _) (.cons ?_ (.cons ?_ .nil)))
  · exact Dp.fr (((f14.trans f16).trans f17).trans (g3.trans g4)) _ _ (tup_enc pr) dr13
  · exact .tup (g4.sqT (SqT.of upd_same)) (.cons (.str _) (.cons (.str _) (.cons (Dp.fr (g3.trans g4) _ _ (tup_enc pl) dl17) (.cons (Dp.fr (f17.trans (g3.trans g4)) _ _ (tup_enc (.call f (Parts.of as))) dc) .nil))))
end BN
namespace BN
open PySem L2 PyProof.Rows
theorem ifF {b : Bool} {A B : Prop} (e : b = false) (h : B) : if b = true then A else B := by rw [e]; exact iteF h
theorem ifT {b : Bool} {A B : Prop} (e : b = true) (h : A) : if b = true then A else B := by rw [e]; exact iteT h
theorem nocut {n : Nat} (k : Nat) (h : 0 < k) (hn : k ≤ n) : ¬ (HT.sIx n 0 (some (k : Int)) = 0 ∧ HT.sIx n n none = n) := fun z => by
  have := z.1
  rw [HT.sIx_nat] at this
  omega
theorem rep_le {x : V} {b : Bool} : [x].length * (if b = true then (1 : Int) else 0).toNat ≤ sizeLine := by
  cases b
  · show 1 * (0 : Int).toNat ≤ sizeLine
    exact one_sz (by decide)
  · show 1 * (1 : Int).toNat ≤ sizeLine
    exact one_sz (by decide)
/-! ### what stands in a part -/
section
variable {K : PySem.W.Frag} {H : Hp} {v : V}
theorem all1 {vs : List V} {d : PyData} (h : DpAll K H vs [d]) : ∃ a, vs = [a] ∧ Dp K H a d := by
  cases h with
  | cons h1 r1 => cases r1; exact ⟨_, rfl, h1⟩
theorem all2 {vs : List V} {d e : PyData} (h : DpAll K H vs [d, e]) : ∃ a b, vs = [a, b] ∧ Dp K H a d ∧ Dp K H b e := by
  cases h with
  | cons h1 r1 => obtain ⟨b, rfl, h2⟩ := all1 r1; exact ⟨_, _, rfl, h1, h2⟩
theorem all3 {vs : List V} {d e f : PyData} (h : DpAll K H vs [d, e, f]) : ∃ a b c, vs = [a, b, c] ∧ Dp K H a d ∧ Dp K H b e ∧ Dp K H c f := by
  cases h with
  | cons h1 r1 => obtain ⟨b, c, rfl, h2, h3⟩ := all2 r1; exact ⟨_, _, _, rfl, h1, h2, h3⟩
theorem all4 {vs : List V} {d e f g : PyData} (h : DpAll K H vs [d, e, f, g]) : ∃ a b c i, vs = [a, b, c, i] ∧ Dp K H a d ∧ Dp K H b e ∧ Dp K H c f ∧ Dp K H i g := by
  cases h with
  | cons h1 r1 => obtain ⟨b, c, i, rfl, h2, h3, h4⟩ := all3 r1; exact ⟨_, _, _, _, rfl, h1, h2, h3, h4⟩
theorem all5 {vs : List V} {d e f g i : PyData} (h : DpAll K H vs [d, e, f, g, i]) : ∃ a b c k l, vs = [a, b, c, k, l] ∧ Dp K H a d ∧ Dp K H b e ∧ Dp K H c f ∧ Dp K H k g ∧ Dp K H l i := by
  cases h with
  | cons h1 r1 => obtain ⟨b, c, k, l, rfl, h2, h3, h4, h5⟩ := all4 r1; exact ⟨_, _, _, _, _, rfl, h1, h2, h3, h4, h5⟩
theorem inv_num {n : Int} (h : Dp K H v (Part.num n).enc) : ∃ t, v = .ref t ∧ SqT K H t [.str "num", .int n] := by
  obtain ⟨t, xs, rfl, hT, ha⟩ := Dp.tup_inv (by simpa only [Part.enc] using h)
  obtain ⟨a, b, rfl, h1, h2⟩ := all2 ha
  cases h1; cases h2; exact ⟨_, rfl, hT⟩
theorem inv_name {x : Str} (h : Dp K H v (Part.name x).enc) : ∃ t, v = .ref t ∧ SqT K H t [.str "name", .str x] := by
  obtain ⟨t, xs, rfl, hT, ha⟩ := Dp.tup_inv (by simpa only [Part.enc] using h)
  obtain ⟨a, b, rfl, h1, h2⟩ := all2 ha
  cases h1; cases h2; exact ⟨_, rfl, hT⟩
theorem inv_add {a b : Part} (h : Dp K H v (Part.add a b).enc) : ∃ t va vb, v = .ref t ∧ SqT K H t [.str "add", va, vb] ∧ Dp K H va a.enc ∧ Dp K H vb b.enc := by
  obtain ⟨t, xs, rfl, hT, ha⟩ := Dp.tup_inv (by simpa only [Part.enc] using h)
  obtain ⟨a, b, c, rfl, h1, h2, h3⟩ := all3 ha
  cases h1; exact ⟨_, _, _, rfl, hT, h2, h3⟩
theorem inv_less {a b : Part} (h : Dp K H v (Part.less a b).enc) : ∃ t va vb, v = .ref t ∧ SqT K H t [.str "less", va, vb] ∧ Dp K H va a.enc ∧ Dp K H vb b.enc := by
  obtain ⟨t, xs, rfl, hT, ha⟩ := Dp.tup_inv (by simpa only [Part.enc] using h)
  obtain ⟨a, b, c, rfl, h1, h2, h3⟩ := all3 ha
  cases h1; exact ⟨_, _, _, rfl, hT, h2, h3⟩
theorem inv_ite {c a b : Part} (h : Dp K H v (Part.ite c a b).enc) : ∃ t vc va vb, v = .ref t ∧ SqT K H t [.str "if", vc, va, vb] ∧ Dp K H vc c.enc ∧ Dp K H va a.enc ∧ Dp K H vb b.enc := by
  obtain ⟨t, xs, rfl, hT, ha⟩ := Dp.tup_inv (by simpa only [Part.enc] using h)
  obtain ⟨a, b, c, d, rfl, h1, h2, h3, h4⟩ := all4 ha
  cases h1; exact ⟨_, _, _, _, rfl, hT, h2, h3, h4⟩
theorem inv_say {a : Part} (h : Dp K H v (Part.say a).enc) : ∃ t va, v = .ref t ∧ SqT K H t [.str "say", va] ∧ Dp K H va a.enc := by
  obtain ⟨t, xs, rfl, hT, ha⟩ := Dp.tup_inv (by simpa only [Part.enc] using h)
  obtain ⟨a, b, rfl, h1, h2⟩ := all2 ha
  cases h1; exact ⟨_, _, rfl, hT, h2⟩
theorem inv_lt {x : Str} {a b : Part} (h : Dp K H v (Part.lt x a b).enc) : ∃ t va vb, v = .ref t ∧ SqT K H t [.str "let", .str x, va, vb] ∧ Dp K H va a.enc ∧ Dp K H vb b.enc := by
  obtain ⟨t, xs, rfl, hT, ha⟩ := Dp.tup_inv (by simpa only [Part.enc] using h)
  obtain ⟨a, b, c, d, rfl, h1, h2, h3, h4⟩ := all4 ha
  cases h1; cases h2; exact ⟨_, _, _, rfl, hT, h3, h4⟩
theorem inv_fn {f : Str} {ps : List Str} {b r : Part} (h : Dp K H v (Part.fn f ps b r).enc) : ∃ t tp vb vr, v = .ref t ∧ SqT K H t [.str "fun", .str f, .ref tp, vb, vr] ∧ SqT K H tp (ps.map V.str) ∧ Dp K H vb b.enc ∧ Dp K H vr r.enc := by
  obtain ⟨t, xs, rfl, hT, ha⟩ := Dp.tup_inv (by simpa only [Part.enc] using h)
  obtain ⟨a, b, c, d, e, rfl, h1, h2, h3, h4, h5⟩ := all5 ha
  cases h1; cases h2
  obtain ⟨tp, ys, rfl, hT2, ha2⟩ := h3.tup_inv
  rw [ha2.strs_inv] at hT2
  exact ⟨_, _, _, _, rfl, hT, hT2, h4, h5⟩
theorem inv_call {f : Str} {as : Parts} (h : Dp K H v (Part.call f as).enc) : ∃ t ta vs, v = .ref t ∧ SqT K H t [.str "call", .str f, .ref ta] ∧ SqT K H ta vs ∧ DpAll K H vs (as.list.map Part.enc) := by
  obtain ⟨t, xs, rfl, hT, ha⟩ := Dp.tup_inv (by simpa only [Part.enc] using h)
  obtain ⟨a, b, c, rfl, h1, h2, h3⟩ := all3 ha
  cases h1; cases h2
  obtain ⟨ta, ys, rfl, hT2, ha2⟩ := h3.tup_inv
  rw [Parts.encs_list] at ha2
  exact ⟨_, _, _, rfl, hT, hT2, ha2⟩
end
theorem tupDs_P (l : List Part) : tupDs (l.map Part.enc) = true := tupDs_all fun x hx => by
  obtain ⟨a, _, rfl⟩ := List.mem_map.mp hx
  exact tup_enc a
/-! ### the parts that stand straight in a part: the law's and the program's -/
def spInner (K : PySem.W.Frag) : Sp := fun vs H Q _ => ∃ (v : V) (p : Part), vs = [v] ∧ Dp K H v p.enc ∧
  ∀ D ws H', Fr c0 H H' → H D = none → H' D = some (.lst ws) → DpAll K H' ws (p.inner.map Part.enc) → Q (.ref D) H'
theorem inn_end {K : PySem.W.Frag} {H H1 : Hp} {p : Part} {ws : List V} {Q : VK} (k : ∀ D ws H', Fr c0 H H' → H D = none → H' D = some (.lst ws) → DpAll K H' ws (p.inner.map Part.enc) → Q (.ref D) H')
    (f : Fr c0 H H1) (d : DpAll K H1 ws (p.inner.map Part.enc)) : ∀ l, H1 l = none → Q (.ref l) (upd H1 l (.lst ws)) := fun l hl =>
  k l ws _ (f.trans (Fr.new hl)) (f.free l hl) upd_same (Dp.frs (Fr.new (C := c0) hl) _ _ (tupDs_P _) d)
def t_linner (K : PySem.W.Frag) : TS :=
  (tSeq (tAsg (tOp (rIxT K) (tVar 0) (tC (.int 0))) (gName 1))
    (tSeq (tIfS (tTest (tOp (rIn K false) (tVar 1) (tTup (tCons (tC (.str "add")) (tCons (tC (.str "less")) (tCons (tC (.str "if")) tNil)))))) (tRet (tCB (rListSq K) (tCons (tSl (rSlT K) (tVar 0) (tPart (tC (.int 1))) tNoPart) tNil))) tNext)
    (tSeq (tIfS (tTest (tOp (rIn K false) (tVar 1) (tTup (tCons (tC (.str "let")) (tCons (tC (.str "fun")) tNil))))) (tRet (tCB (rListSq K) (tCons (tSl (rSlT K) (tVar 0) (tPart (tOp (rIxL K) (tLst (tCons (tC (.int 2)) (tCons (tC (.int 3)) tNil))) (tCB rInt1 (tCons (tOp rEq (tVar 1) (tC (.str "fun"))) tNil)))) tNoPart) tNil))) tNext)
    (tSeq (tIfS (tTest (tOp rEq (tVar 1) (tC (.str "call")))) (tRet (tCB (rListSq K) (tCons (tOp (rIxT K) (tVar 0) (tC (.int 2))) tNil))) tNext)
    (tRet (tOp rRep (tLst (tCons (tOp (rIxT K) (tVar 0) (tC (.int 1))) tNil)) (tCB rInt1 (tCons (tOp rEq (tVar 1) (tC (.str "say"))) tNil))))))))
theorem pure_linner {K : PySem.W.Frag} (vs : List V) (H : Hp) (Q : VK) (E : XK) (h : spInner K vs H Q E) : t_linner K { nx := fun _ H' => Q .non H', rt := Q } (start ["part", "word"] vs) H := by
  obtain ⟨v, p, rfl, hd, k⟩ := h
  have f3 : ∀ {t1 : Addr}, H t1 = none → Fr c0 H (upd H t1 (.tup [.str "add", .str "less", .str "if"])) := fun h => Fr.new h
  cases p with
  | num n =>
    obtain ⟨t, rfl, hT⟩ := inv_num hd
    refine ⟨_, rfl, t, _, _, _, rfl, rfl, hT, rfl, _, rfl, one_sz (by show 3 ≤ 1000; decide), fun t1 h1 => ⟨t1, _, rfl, .inr (SqT.of upd_same), rfl, rfl, _, rfl, ifF (by decide +kernel) ?_⟩⟩
    have g1 := f3 h1
    refine ⟨_, rfl, one_sz (by show 2 ≤ 1000; decide), fun t2 h2 => ⟨t2, _, rfl, .inr (SqT.of upd_same), rfl, rfl, _, rfl, ifF (by decide +kernel) ?_⟩⟩
    have g2 := g1.trans (Fr.new (o := .tup [.str "let", .str "fun"]) h2)
    refine ⟨_, rfl, rfl, _, rfl, ifF (by decide +kernel) ?_⟩
    refine ⟨_, rfl, t, _, _, _, rfl, rfl, g2.sqT hT, rfl, one_sz (by show 1 ≤ 1000; decide), fun l hl => ⟨_, rfl, rfl, .inr ⟨_, rfl, ?_⟩⟩⟩
    refine ⟨l, _, _, rfl, rfl, upd_same, by decide +kernel, by decide +kernel, rep_le, ?_⟩
    exact inn_end k (g2.trans (Fr.new hl)) .nil
  | name n =>
    obtain ⟨t, rfl, hT⟩ := inv_name hd
    refine ⟨_, rfl, t, _, _, _, rfl, rfl, hT, rfl, _, rfl, one_sz (by show 3 ≤ 1000; decide), fun t1 h1 => ⟨t1, _, rfl, .inr (SqT.of upd_same), rfl, rfl, _, rfl, ifF (by decide +kernel) ?_⟩⟩
    have g1 := f3 h1
    refine ⟨_, rfl, one_sz (by show 2 ≤ 1000; decide), fun t2 h2 => ⟨t2, _, rfl, .inr (SqT.of upd_same), rfl, rfl, _, rfl, ifF (by decide +kernel) ?_⟩⟩
    have g2 := g1.trans (Fr.new (o := .tup [.str "let", .str "fun"]) h2)
    refine ⟨_, rfl, rfl, _, rfl, ifF (by decide +kernel) ?_⟩
    refine ⟨_, rfl, t, _, _, _, rfl, rfl, g2.sqT hT, rfl, one_sz (by show 1 ≤ 1000; decide), fun l hl => ⟨_, rfl, rfl, .inr ⟨_, rfl, ?_⟩⟩⟩
    refine ⟨l, _, _, rfl, rfl, upd_same, by decide +kernel, by decide +kernel, rep_le, ?_⟩
    exact inn_end k (g2.trans (Fr.new hl)) .nil
  | say a =>
    obtain ⟨t, va, rfl, hT, da⟩ := inv_say hd
    refine ⟨_, rfl, t, _, _, _, rfl, rfl, hT, rfl, _, rfl, one_sz (by show 3 ≤ 1000; decide), fun t1 h1 => ⟨t1, _, rfl, .inr (SqT.of upd_same), rfl, rfl, _, rfl, ifF (by decide +kernel) ?_⟩⟩
    have g1 := f3 h1
    refine ⟨_, rfl, one_sz (by show 2 ≤ 1000; decide), fun t2 h2 => ⟨t2, _, rfl, .inr (SqT.of upd_same), rfl, rfl, _, rfl, ifF (by decide +kernel) ?_⟩⟩
    have g2 := g1.trans (Fr.new (o := .tup [.str "let", .str "fun"]) h2)
    refine ⟨_, rfl, rfl, _, rfl, ifF (by decide +kernel) ?_⟩
    refine ⟨_, rfl, t, _, _, _, rfl, rfl, g2.sqT hT, rfl, one_sz (by show 1 ≤ 1000; decide), fun l hl => ⟨_, rfl, rfl, .inr ⟨_, rfl, ?_⟩⟩⟩
    refine ⟨l, _, _, rfl, rfl, upd_same, by decide +kernel, by decide +kernel, rep_le, ?_⟩
    exact inn_end k (g2.trans (Fr.new hl)) (.cons (Dp.fr (g2.trans (Fr.new hl)) _ _ (tup_enc a) da) .nil)
  | add a b =>
    obtain ⟨t, va, vb, rfl, hT, da, db⟩ := inv_add hd
    refine ⟨_, rfl, t, _, _, _, rfl, rfl, hT, rfl, _, rfl, one_sz (by show 3 ≤ 1000; decide), fun t1 h1 => ⟨t1, _, rfl, .inr (SqT.of upd_same), rfl, rfl, _, rfl, ifT (by decide +kernel) ?_⟩⟩
    have g1 := f3 h1
    refine ⟨_, rfl, _, rfl, t, _, rfl, g1.sqT hT, nocut 1 (by decide) (by simp), fun t2 h2 => ?_⟩
    have g2 := g1.trans (Fr.new (o := .tup [va, vb]) h2)
    exact ⟨t2, [va, vb], rfl, .inr (SqT.of upd_same), inn_end k g2 (.cons (Dp.fr g2 _ _ (tup_enc a) da) (.cons (Dp.fr g2 _ _ (tup_enc b) db) .nil))⟩
  | less a b =>
    obtain ⟨t, va, vb, rfl, hT, da, db⟩ := inv_less hd
    refine ⟨_, rfl, t, _, _, _, rfl, rfl, hT, rfl, _, rfl, one_sz (by show 3 ≤ 1000; decide), fun t1 h1 => ⟨t1, _, rfl, .inr (SqT.of upd_same), rfl, rfl, _, rfl, ifT (by decide +kernel) ?_⟩⟩
    have g1 := f3 h1
    refine ⟨_, rfl, _, rfl, t, _, rfl, g1.sqT hT, nocut 1 (by decide) (by simp), fun t2 h2 => ?_⟩
    have g2 := g1.trans (Fr.new (o := .tup [va, vb]) h2)
    exact ⟨t2, [va, vb], rfl, .inr (SqT.of upd_same), inn_end k g2 (.cons (Dp.fr g2 _ _ (tup_enc a) da) (.cons (Dp.fr g2 _ _ (tup_enc b) db) .nil))⟩
  | ite c a b =>
    obtain ⟨t, vc, va, vb, rfl, hT, dc, da, db⟩ := inv_ite hd
    refine ⟨_, rfl, t, _, _, _, rfl, rfl, hT, rfl, _, rfl, one_sz (by show 3 ≤ 1000; decide), fun t1 h1 => ⟨t1, _, rfl, .inr (SqT.of upd_same), rfl, rfl, _, rfl, ifT (by decide +kernel) ?_⟩⟩
    have g1 := f3 h1
    refine ⟨_, rfl, _, rfl, t, _, rfl, g1.sqT hT, nocut 1 (by decide) (by simp), fun t2 h2 => ?_⟩
    have g2 := g1.trans (Fr.new (o := .tup [vc, va, vb]) h2)
    exact ⟨t2, [vc, va, vb], rfl, .inr (SqT.of upd_same), inn_end k g2 (.cons (Dp.fr g2 _ _ (tup_enc c) dc) (.cons (Dp.fr g2 _ _ (tup_enc a) da) (.cons (Dp.fr g2 _ _ (tup_enc b) db) .nil)))⟩
  | lt x a b =>
    obtain ⟨t, va, vb, rfl, hT, da, db⟩ := inv_lt hd
    refine ⟨_, rfl, t, _, _, _, rfl, rfl, hT, rfl, _, rfl, one_sz (by show 3 ≤ 1000; decide), fun t1 h1 => ⟨t1, _, rfl, .inr (SqT.of upd_same), rfl, rfl, _, rfl, ifF (by decide +kernel) ?_⟩⟩
    have g1 := f3 h1
    refine ⟨_, rfl, one_sz (by show 2 ≤ 1000; decide), fun t2 h2 => ⟨t2, _, rfl, .inr (SqT.of upd_same), rfl, rfl, _, rfl, ifT (by decide +kernel) ?_⟩⟩
    have g2 := g1.trans (Fr.new (o := .tup [.str "let", .str "fun"]) h2)
    refine ⟨_, rfl, one_sz (by show 2 ≤ 1000; decide), fun q hq => ⟨_, rfl, rfl, .inr ⟨_, rfl, ?_⟩⟩⟩
    have g3 := g2.trans (Fr.new (o := .lst [.int 2, .int 3]) hq)
    refine ⟨q, _, _, .int 2, rfl, rfl, SqL.of upd_same, by decide +kernel, _, rfl, t, _, rfl, g3.sqT hT, nocut 2 (by decide) (by simp), fun t4 h4 => ?_⟩
    have g4 := g3.trans (Fr.new (o := .tup [va, vb]) h4)
    exact ⟨t4, [va, vb], rfl, .inr (SqT.of upd_same), inn_end k g4 (.cons (Dp.fr g4 _ _ (tup_enc a) da) (.cons (Dp.fr g4 _ _ (tup_enc b) db) .nil))⟩
  | fn f ps a b =>
    obtain ⟨t, tp, va, vb, rfl, hT, _, da, db⟩ := inv_fn hd
    refine ⟨_, rfl, t, _, _, _, rfl, rfl, hT, rfl, _, rfl, one_sz (by show 3 ≤ 1000; decide), fun t1 h1 => ⟨t1, _, rfl, .inr (SqT.of upd_same), rfl, rfl, _, rfl, ifF (by decide +kernel) ?_⟩⟩
    have g1 := f3 h1
    refine ⟨_, rfl, one_sz (by show 2 ≤ 1000; decide), fun t2 h2 => ⟨t2, _, rfl, .inr (SqT.of upd_same), rfl, rfl, _, rfl, ifT (by decide +kernel) ?_⟩⟩
    have g2 := g1.trans (Fr.new (o := .tup [.str "let", .str "fun"]) h2)
    refine ⟨_, rfl, one_sz (by show 2 ≤ 1000; decide), fun q hq => ⟨_, rfl, rfl, .inr ⟨_, rfl, ?_⟩⟩⟩
    have g3 := g2.trans (Fr.new (o := .lst [.int 2, .int 3]) hq)
    refine ⟨q, _, _, .int 3, rfl, rfl, SqL.of upd_same, by decide +kernel, _, rfl, t, _, rfl, g3.sqT hT, nocut 3 (by decide) (by simp), fun t4 h4 => ?_⟩
    have g4 := g3.trans (Fr.new (o := .tup [va, vb]) h4)
    exact ⟨t4, [va, vb], rfl, .inr (SqT.of upd_same), inn_end k g4 (.cons (Dp.fr g4 _ _ (tup_enc a) da) (.cons (Dp.fr g4 _ _ (tup_enc b) db) .nil))⟩
  | call f as =>
    obtain ⟨t, ta, ws, rfl, hT, hA, da⟩ := inv_call hd
    refine ⟨_, rfl, t, _, _, _, rfl, rfl, hT, rfl, _, rfl, one_sz (by show 3 ≤ 1000; decide), fun t1 h1 => ⟨t1, _, rfl, .inr (SqT.of upd_same), rfl, rfl, _, rfl, ifF (by decide +kernel) ?_⟩⟩
    have g1 := f3 h1
    refine ⟨_, rfl, one_sz (by show 2 ≤ 1000; decide), fun t2 h2 => ⟨t2, _, rfl, .inr (SqT.of upd_same), rfl, rfl, _, rfl, ifF (by decide +kernel) ?_⟩⟩
    have g2 := g1.trans (Fr.new (o := .tup [.str "let", .str "fun"]) h2)
    refine ⟨_, rfl, rfl, _, rfl, ifT (by decide +kernel) ?_⟩
    exact ⟨_, rfl, t, _, _, _, rfl, rfl, g2.sqT hT, rfl, ta, ws, rfl, .inr (g2.sqT hA), inn_end k g2 (Dp.frs g2 _ _ (tupDs_P _) da)⟩
end BN
namespace BN
open PySem L2 PyProof.Rows
theorem eq_map_of_at {α β : Type} {ds : List α} {l : List β} {f : β → α} (hl : ds.length = l.length) (h : ∀ (k : Nat) (d : α), ds[k]? = some d → ∃ q, l[k]? = some q ∧ d = f q) : ds = l.map f := by
  refine List.ext_getElem? fun k => ?_
  rw [List.getElem?_map]
  cases e : ds[k]? with
  | none =>
    have : l[k]? = none := by rw [List.getElem?_eq_none_iff] at e ⊢; omega
    rw [this]; rfl
  | some d =>
    obtain ⟨q, hq, rfl⟩ := h k d e
    rw [hq]; rfl
/-! ### how many parts there are -/
def spSize (K : PySem.W.Frag) (n : Nat) : Sp := fun vs H Q _ => ∃ (v : V) (p : Part), vs = [v] ∧ Dp K H v p.enc ∧ p.dep ≤ n ∧ p.wid ≤ 1000 ∧ ∀ H', Fr c0 H H' → Q (.int p.size) H'
theorem sum_sizes : ∀ l : List Part, (l.map fun q => (q.size : Int)).sum = (sizesL l : Int)
  | [] => rfl
  | p :: r => by rw [List.map_cons, List.sum_cons, sum_sizes r, sizesL]; omega
def t_size (K : PySem.W.Frag) (n : Nat) : TS :=
  (tRet (tOp oAdd (tC (.int 1)) (tCB (rSum K) (tCons (tLc (iList K (tCall (spInner K) [] C8.E0 (tCons (tVar 0) tNil))) (gName 1) tYes (tCall (spSize K n) [] C8.E0 (tCons (tVar 1) tNil)) [1]) tNil))))
theorem pure_size {K : PySem.W.Frag} {n : Nat} (vs : List V) (H : Hp) (Q : VK) (E : XK) (h : spSize K (n + 1) vs H Q E) : t_size K n { nx := fun _ H' => Q .non H', rt := Q } (start ["part", "one"] vs) H := by
  obtain ⟨v, p, rfl, hd, hn, hw, k⟩ := h
  refine ⟨_, rfl, v, p, rfl, hd, fun D ws H1 f1 hD0 e da => ⟨D, rfl, ⟨ws, SqL.of e⟩, ?_⟩⟩
  have hl : ws.length = p.inner.length := by rw [da.len, List.length_map]
  refine lcG_list (K := K) (a := D) (xs := ws) (C := c0) (I := fun _ => True) (Good := fun i d => ∃ q, p.inner[i]? = some q ∧ d = .int q.size) (SqL.of e) (fun _ z => z) (fun _ _ _ _ _ => trivial) (fun _ _ _ z => z) trivial ?_ (fun i x hi H' f' _ Q' hQ => ?_) fun D2 vs ds H2 hD2 e2 da2 dl dg f2 _ => ?_
  · have := len_inner p; omega
  · obtain ⟨dd, hdd, Dx⟩ := da.getV hi
    obtain ⟨q, hq, rfl⟩ := map_at hdd
    have hm := List.mem_of_getElem? hq
    have h1 := dep_inner p q hm
    have h2 := wid_inner p q hm
    exact ⟨_, rfl, x, q, rfl, Dp.fr f' _ _ (tup_enc q) Dx, by omega, by omega, fun H3 f3 => hQ (.int q.size) _ _ ⟨q, hq, rfl⟩ rfl (.int _) f3 trivial⟩
  · have hds : ds = (p.inner.map fun q => (q.size : Int)).map PyData.int := by
      rw [List.map_map]
      exact eq_map_of_at (by rw [dl, hl]) fun k d hk => (dg k d hk).1
    rw [hds] at da2
    refine ⟨D2, _, rfl, SqL.of (by rw [← da2.ints_inv]; exact e2), _, _, rfl, rfl, ?_⟩
    rw [sum_sizes]
    have := size_inner p
    have e3 : (1 : Int) + (sizesL p.inner : Int) = (p.size : Int) := by omega
    show Q (.int (1 + (sizesL p.inner : Int))) H2
    rw [e3]
    exact k _ (f1.trans f2)
/-! ### numbers for the inputs -/
def spNumbers (K : PySem.W.Frag) : Sp := fun vs H Q _ => ∃ (bx il pr ti : Addr) (vp : V) (ins : List Str), vs = [.ref bx, .ref pr] ∧ Box H bx il ∧ SqT K H pr [.ref ti, vp] ∧ SqT K H ti (ins.map V.str) ∧ ins.length ≤ 1000 ∧
  ∀ (t : Addr) (ns : List Int) H', ns.length = ins.length → (∀ n ∈ ns, 0 ≤ n ∧ n ≤ 99) → H' t = some (.tup (ns.map V.int)) → Fr (cB bx il) H H' → Box H' bx il → Q (.ref t) H'
def t_numbers (K : PySem.W.Frag) : TS :=
  (tRet (tCB (rTupSq K) (tCons (tLc (iTup K (tOp (rIxT K) (tVar 1) (tC (.int 0)))) (gName 2) tYes (tCall spTake [] C8.E0 (tCons (tVar 0) (tCons (tOp (rIxL K) (tLst (tCons (tC (.int 4)) (tCons (tC (.int 100)) tNil))) (tCB rInt1 (tCons (tOp rEq (tCall spTake [] C8.E0 (tCons (tVar 0) (tCons (tC (.int 3)) tNil))) (tC (.int 1))) tNil))) tNil))) [2]) tNil)))
theorem pure_numbers {K : PySem.W.Frag} (vs : List V) (H : Hp) (Q : VK) (E : XK) (h : spNumbers K vs H Q E) : t_numbers K { nx := fun _ H' => Q .non H', rt := Q } (start ["box", "program", "name"] vs) H := by
  obtain ⟨bx, il, pr, ti, vp, ins, rfl, B, hp, hi, hl, k⟩ := h
  refine ⟨_, rfl, pr, _, _, _, rfl, rfl, hp, rfl, ti, rfl, ⟨_, hi⟩, ?_⟩
  refine lcG_tup (K := K) (a := ti) (xs := ins.map V.str) (C := cB bx il) (I := fun H => Box H bx il) (Good := fun _ d => ∃ z : Int, (0 ≤ z ∧ z ≤ 99) ∧ d = .int z) hi (box_up B) (box_no B) B (by rw [List.length_map]; omega) (fun i x hx H' f' B' Q' hQ => ?_) fun D vs ds H2 hD e da dl dg f2 B2 => ?_
  · refine ⟨_, rfl, one_sz (by show 2 ≤ 1000; decide), fun q hq => ?_⟩
    have f1 : Fr (cB bx il) H' (upd H' q (.lst [.int 4, .int 100])) := Fr.new hq
    have Lq : Ls (upd H' q (.lst [.int 4, .int 100])) bx il q [.int 4, .int 100] := Ls.new B' hq
    refine ⟨_, rfl, bx, il, 3, rfl, B'.new hq, by decide, by decide, fun r H3 r0 r3 f3 B3 => ⟨rfl, .inr ⟨_, rfl, ?_⟩⟩⟩
    have L3 := Lq.fr f3
    by_cases e : r = 1
    · subst e
      exact ⟨q, _, _, _, rfl, rfl, L3.sq, rfl, bx, il, 100, rfl, B3, by decide, by decide, fun z H4 h0 h1 f4 B4 => hQ (.int z) _ _ ⟨z, ⟨h0, by omega⟩, rfl⟩ rfl (.int _) ((f1.trans f3).trans f4) B4⟩
    · have d : decide (V.int r = V.int 1) = false := decide_eq_false fun z => e (V.int.inj z)
      rw [d]
      exact ⟨q, _, _, _, rfl, rfl, L3.sq, rfl, bx, il, 4, rfl, B3, by decide, by decide, fun z H4 h0 h1 f4 B4 => hQ (.int z) _ _ ⟨z, ⟨h0, by omega⟩, rfl⟩ rfl (.int _) ((f1.trans f3).trans f4) B4⟩
  · have intsOf : ∀ {ds : List PyData}, (∀ (k : Nat) (d : PyData), ds[k]? = some d → (∃ z : Int, (0 ≤ z ∧ z ≤ 99) ∧ d = .int z) ∧ tupD d = true) → ∃ ns : List Int, ds = ns.map PyData.int ∧ ∀ n ∈ ns, 0 ≤ n ∧ n ≤ 99 := fun {ds} => by
      induction ds with
      | nil => intro _; exact ⟨[], rfl, fun _ h => by simp at h⟩
      | cons d r ih =>
        intro h
        obtain ⟨⟨z, hz, rfl⟩, _⟩ := h 0 d rfl
        obtain ⟨ns, rfl, hn⟩ := ih fun k x hk => h (k + 1) x (by simpa using hk)
        exact ⟨z :: ns, rfl, fun n hm => (List.mem_cons.mp hm).elim (fun e => by subst e; exact hz) (hn n)⟩
    obtain ⟨ns, rfl, hn⟩ := intsOf dg
    have hv := da.ints_inv
    subst hv
    refine ⟨D, _, rfl, .inl ⟨SqL.of e, fun t ht => ?_⟩⟩
    rw [List.length_map, List.length_map] at dl
    exact k t ns _ dl hn upd_same (f2.trans (Fr.new ht)) (B2.new ht)
/-! ### alike: of the same data -/
def spAlike (K : PySem.W.Frag) (n : Nat) : Sp := fun vs H Q _ => ∃ (x y : V) (d : PyData), vs = [x, y] ∧ Dp K H x d ∧ Dp K H y d ∧ d.depth < n ∧ wd d ≤ 1000000 ∧ Q (.bl true) H
theorem tyT {K : PySem.W.Frag} {H : Hp} {a : Addr} {xs : List V} (h : SqT K H a xs) : TyX K H (.ref a) (.type "tuple") := by
  rcases h with (h | ⟨o, h⟩) | ⟨o, its, n, h, c, _⟩
  · exact .base (.tup h)
  · exact .fTuple h
  · exact .kTuple h c
theorem tyL {K : PySem.W.Frag} {H : Hp} {a : Addr} {xs : List V} (h : SqL K H a xs) : TyX K H (.ref a) (.type "list") := by
  rcases h with (h | ⟨o, h⟩) | ⟨o, its, n, h, c, _⟩
  · exact .base (.lst h)
  · exact .base (.frz h)
  · exact .kList h c
/-- isinstance(x, T), x in slot i -/
theorem isi_run {K : PySem.W.Frag} {H : Hp} {Q : VK} {σ : L2.St} {i : Nat} {x : V} {t T : String} {b : Bool} (hx : σ[i]? = some (some x)) (ht : TyX K H x (.type t)) (hb : kitB t T = some b) (q : Q (.bl b) H) :
    tCB (rIsi K) (tCons (tVar i) (tCons (tC (.ty T)) tNil)) σ H Q := ⟨x, hx, x, .ty T, .type t, .type T, b, rfl, .ty T, ht, kit_ty hb, q⟩
def t_alike (K : PySem.W.Frag) (n : Nat) : TS :=
  (tSeq (tIfS (tTest (tOp rIsN (tVar 1) (tC .non))) (tRet (tOp rIsN (tVar 0) (tC .non))) tNext)
    (tSeq (tIfS (tB (tCB (rIsi K) (tCons (tVar 1) (tCons (tC (.ty "bool")) tNil)))) (tRet (tAndV (tCB (rIsi K) (tCons (tVar 0) (tCons (tC (.ty "bool")) tNil))) (tOp rEq (tVar 0) (tVar 1)))) tNext)
    (tSeq (tIfS (tB (tCB (rIsi K) (tCons (tVar 1) (tCons (tC (.ty "int")) tNil)))) (tRet (tAndV (tCB (rIsi K) (tCons (tVar 0) (tCons (tC (.ty "int")) tNil))) (tAndV (tNotV (tCB (rIsi K) (tCons (tVar 0) (tCons (tC (.ty "bool")) tNil)))) (tOp rEq (tVar 0) (tVar 1))))) tNext)
    (tSeq (tIfS (tB (tCB (rIsi K) (tCons (tVar 1) (tCons (tC (.ty "str")) tNil)))) (tRet (tAndV (tCB (rIsi K) (tCons (tVar 0) (tCons (tC (.ty "str")) tNil))) (tOp rEq (tVar 0) (tVar 1)))) tNext)
    (tSeq (tIfS (tOr (tTest (tOp rNe (tCB (rIsi K) (tCons (tVar 1) (tCons (tC (.ty "tuple")) tNil))) (tCB (rIsi K) (tCons (tVar 0) (tCons (tC (.ty "tuple")) tNil))))) (tTest (tOp rNe (tCB (rIsi K) (tCons (tVar 1) (tCons (tC (.ty "list")) tNil))) (tCB (rIsi K) (tCons (tVar 0) (tCons (tC (.ty "list")) tNil)))))) (tRet (tC (.bl false))) tNext)
    (tSeq (tIfS (tTest (tOp rNe (tCB (rLenSq K) (tCons (tVar 0) tNil)) (tCB (rLenSq K) (tCons (tVar 1) tNil)))) (tRet (tC (.bl false))) tNext)
    (tSeq (tFor (iRng1 (tCons (tCB (rLenSq K) (tCons (tVar 1) tNil)) tNil)) (gName 2) (tIfS (tNot (tB (tCall (spAlike K n) [] C8.E0 (tCons (tOp (rIx K) (tVar 0) (tVar 2)) (tCons (tOp (rIx K) (tVar 1) (tVar 2)) tNil))))) (tRet (tC (.bl false))) tNext))
    (tRet (tC (.bl true))))))))))
theorem seq_alike {K : PySem.W.Frag} {n : Nat} {H : Hp} {Q : VK} {a b : Addr} {xs ys : List V} {ds : List PyData} (hx : SqL K H a xs ∨ SqT K H a xs) (hy : SqL K H b ys ∨ SqT K H b ys) (dx : DpAll K H xs ds) (dy : DpAll K H ys ds)
    (hn : PyData.depthAll ds < n) (hw : max ds.length (wds ds) ≤ 1000000) (k : Q (.bl true) H) :
    (tSeq (tIfS (tTest (tOp rNe (tCB (rLenSq K) (tCons (tVar 0) tNil)) (tCB (rLenSq K) (tCons (tVar 1) tNil)))) (tRet (tC (.bl false))) tNext)
    (tSeq (tFor (iRng1 (tCons (tCB (rLenSq K) (tCons (tVar 1) tNil)) tNil)) (gName 2) (tIfS (tNot (tB (tCall (spAlike K n) [] C8.E0 (tCons (tOp (rIx K) (tVar 0) (tVar 2)) (tCons (tOp (rIx K) (tVar 1) (tVar 2)) tNil))))) (tRet (tC (.bl false))) tNext))
    (tRet (tC (.bl true))))) { nx := fun _ H' => Q .non H', rt := Q } [some (.ref a), some (.ref b), none] H := by
  have lx := dx.len
  have ly := dy.len
  have ix : ∀ {p : Addr} {zs : List V} {i : Nat} {z : V} {σ : L2.St} {s : Nat} {R : VK}, (SqL K H p zs ∨ SqT K H p zs) → zs[i]? = some z → σ[s]? = some (some (.ref p)) → σ[2]? = some (some (.int (0 + (i : Nat)))) → R z H → tOp (rIx K) (tVar s) (tVar 2) σ H R :=
    fun {p zs i z σ s R} hp hz h1 h2 r => by
      have e : (0 + (i : Nat) : Int) = ((i : Nat) : Int) := Int.zero_add _
      rw [e] at h2
      rcases hp with hp | hp
      · exact ⟨_, h1, _, h2, .inl ⟨p, zs, _, z, rfl, rfl, hp, atI_nat hz, r⟩⟩
      · exact ⟨_, h1, _, h2, .inr (.inl ⟨p, zs, _, z, rfl, rfl, hp, atI_nat hz, r⟩)⟩
  refine ⟨_, rfl, a, _, rfl, hx, _, rfl, b, _, rfl, hy, rfl, _, rfl, ?_⟩
  have e : (!decide (V.int (xs.length : Nat) = V.int (ys.length : Nat))) = false := by rw [lx, ly]; simp
  rw [e]
  refine iteF ⟨_, rfl, b, _, rfl, hy, (ys.length : Nat), rfl, by omega, by omega, ?_⟩
  refine for_range (lo := 0) (n := ys.length) (fun i σ H' => H' = H ∧ ∃ v, σ = [some (.ref a), some (.ref b), v]) ⟨rfl, _, rfl⟩ ?_ ?_
  · rintro i σ H' hi ⟨rfl, v, rfl⟩
    obtain ⟨y, hy2⟩ := get_lt hi
    obtain ⟨d, hd, Dy⟩ := dy.getV hy2
    obtain ⟨x, hx2, Dx⟩ := dx.get hd
    have hm := List.mem_of_getElem? hd
    have h1 := dep_mem hm
    have h2 := wds_mem hm
    refine ix hx hx2 rfl rfl ?_
    refine ix hy hy2 rfl rfl ?_
    exact ⟨x, y, d, rfl, Dx, Dy, by omega, by omega, true, rfl, rfl, _, rfl⟩
  · rintro σ H' ⟨rfl, v, rfl⟩
    exact k
theorem pure_alike {K : PySem.W.Frag} {n : Nat} (vs : List V) (H : Hp) (Q : VK) (E : XK) (h : spAlike K (n + 1) vs H Q E) : t_alike K n { nx := fun _ H' => Q .non H', rt := Q } (start ["found", "due", "k"] vs) H := by
  obtain ⟨x, y, d, rfl, hx, hy, hn, hw, k⟩ := h
  cases d with
  | none =>
    cases hx; cases hy
    exact ⟨_, rfl, rfl, _, rfl, iteT ⟨_, rfl, rfl, k⟩⟩
  | bool b =>
    cases hx; cases hy
    refine ⟨_, rfl, rfl, _, rfl, ifF (by simp) ?_⟩
    refine isi_run rfl (.base (.bl b)) (b := true) (by decide +kernel) ⟨_, rfl, iteT ?_⟩
    refine isi_run rfl (.base (.bl b)) (b := true) (by decide +kernel) ⟨_, rfl, iteT ⟨_, rfl, _, rfl, by cases b <;> rfl, ?_⟩⟩
    rw [decide_eq_true rfl]; exact k
  | int i =>
    cases hx; cases hy
    refine ⟨_, rfl, rfl, _, rfl, ifF (by simp) ?_⟩
    refine isi_run rfl (.base (.int i)) (b := false) (by decide +kernel) ⟨_, rfl, iteF ?_⟩
    refine isi_run rfl (.base (.int i)) (b := true) (by decide +kernel) ⟨_, rfl, iteT ?_⟩
    refine isi_run rfl (.base (.int i)) (b := true) (by decide +kernel) ⟨_, rfl, iteT ?_⟩
    refine isi_run rfl (.base (.int i)) (b := false) (by decide +kernel) ⟨_, rfl, _, rfl, iteT ⟨_, rfl, _, rfl, rfl, ?_⟩⟩
    rw [decide_eq_true rfl]; exact k
  | str z =>
    cases hx; cases hy
    refine ⟨_, rfl, rfl, _, rfl, ifF (by simp) ?_⟩
    refine isi_run rfl (.base (.str z)) (b := false) (by decide +kernel) ⟨_, rfl, iteF ?_⟩
    refine isi_run rfl (.base (.str z)) (b := false) (by decide +kernel) ⟨_, rfl, iteF ?_⟩
    refine isi_run rfl (.base (.str z)) (b := true) (by decide +kernel) ⟨_, rfl, iteT ?_⟩
    refine isi_run rfl (.base (.str z)) (b := true) (by decide +kernel) ⟨_, rfl, iteT ⟨_, rfl, _, rfl, rfl, ?_⟩⟩
    rw [decide_eq_true rfl]; exact k
  | dict kvs => cases hx
  | list ds =>
    obtain ⟨a, xs, rfl, sx, dx⟩ := hx.lst_inv
    obtain ⟨b, ys, rfl, sy, dy⟩ := hy.lst_inv
    refine ⟨_, rfl, rfl, _, rfl, ifF (by simp) ?_⟩
    refine isi_run rfl (tyL sy) (b := false) (by decide +kernel) ⟨_, rfl, iteF ?_⟩
    refine isi_run rfl (tyL sy) (b := false) (by decide +kernel) ⟨_, rfl, iteF ?_⟩
    refine isi_run rfl (tyL sy) (b := false) (by decide +kernel) ⟨_, rfl, iteF ?_⟩
    refine isi_run rfl (tyL sy) (b := false) (by decide +kernel) (isi_run rfl (tyL sx) (b := false) (by decide +kernel) ⟨rfl, _, rfl, iteF ?_⟩)
    refine isi_run rfl (tyL sy) (b := true) (by decide +kernel) (isi_run rfl (tyL sx) (b := true) (by decide +kernel) ⟨rfl, _, rfl, iteF ?_⟩)
    exact seq_alike (.inl sx) (.inl sy) dx dy (by simp only [PyData.depth] at hn; omega) (by simpa only [wd] using hw) k
  | tuple ds =>
    obtain ⟨a, xs, rfl, sx, dx⟩ := hx.tup_inv
    obtain ⟨b, ys, rfl, sy, dy⟩ := hy.tup_inv
    refine ⟨_, rfl, rfl, _, rfl, ifF (by simp) ?_⟩
    refine isi_run rfl (tyT sy) (b := false) (by decide +kernel) ⟨_, rfl, iteF ?_⟩
    refine isi_run rfl (tyT sy) (b := false) (by decide +kernel) ⟨_, rfl, iteF ?_⟩
    refine isi_run rfl (tyT sy) (b := false) (by decide +kernel) ⟨_, rfl, iteF ?_⟩
    refine isi_run rfl (tyT sy) (b := true) (by decide +kernel) (isi_run rfl (tyT sx) (b := true) (by decide +kernel) ⟨rfl, _, rfl, iteF ?_⟩)
    refine isi_run rfl (tyT sy) (b := false) (by decide +kernel) (isi_run rfl (tyT sx) (b := false) (by decide +kernel) ⟨rfl, _, rfl, iteF ?_⟩)
    exact seq_alike (.inr sx) (.inr sy) dx dy (by simp only [PyData.depth] at hn; omega) (by simpa only [wd] using hw) k
end BN
namespace BN
open PySem L2 PyProof.Rows
/-! ### whole programs -/
def encP (ins : List Str) (p : Part) : PyData := .tuple [.tuple (ins.map .str), p.enc]
theorem tup_encP (ins : List Str) (p : Part) : tupD (encP ins p) = true := by simp [encP, tupD, tupDs, tupDs_str, tup_enc]
structure WsOk (ws : List Str) : Prop where
  w : ∀ x ∈ ws, wordB x = true
  nd : ws.Nodup
  l3 : 3 ≤ ws.length
  l5 : ws.length ≤ 5
structure Drawn (d : Int) (ins : List Str) (p : Part) : Prop where
  ex : ∃ (ws : List Str) (k : Nat), WsOk ws ∧ k ≤ 3 ∧ ins = ws.take k ∧ (Gen ws d ins [] p ∨ (∃ a b, p = .add a b ∧ Gen ws d ins [] a ∧ Gen ws d ins [] b) ∨ p = .say (.num 7))
  sz : p.size ≤ 199
structure ProgOk (ins : List Str) (p : Part) : Prop where
  il : ins.length ≤ 3
  nd : ins.Nodup
  iw : ∀ x ∈ ins, wordB x = true
  ok : p.ok ins (fun _ => none)
  sz : p.size ≤ 200
  dep : p.dep ≤ 15
  wid : p.wid ≤ 12
theorem lk_nil : lk [] = fun _ => none := by funext f; rfl
theorem Drawn.okP {d : Int} {ins : List Str} {p : Part} (h : Drawn d ins p) (h5 : d ≤ 5) : ProgOk ins p := by
  obtain ⟨ws, k, W, hk, rfl, g⟩ := h.ex
  have gd : gdep d ≤ 13 := by unfold gdep; split <;> omega
  have ok1 : ∀ {q}, Gen ws d (ws.take k) [] q → q.ok (ws.take k) (fun _ => none) ∧ q.dep ≤ 13 ∧ q.wid ≤ 4 := fun g => by
    have h1 := gen_ok W.w g (by simp)
    have h2 := gen_dep g
    rw [lk_nil] at h1
    exact ⟨h1, by omega, gen_wid g fun e he => by simp at he⟩
  have all : p.ok (ws.take k) (fun _ => none) ∧ p.dep ≤ 14 ∧ p.wid ≤ 4 := by
    rcases g with g | ⟨a, b, rfl, ga, gb⟩ | rfl
    · obtain ⟨h1, h2, h3⟩ := ok1 g; exact ⟨h1, by omega, h3⟩
    · obtain ⟨h1, h2, h3⟩ := ok1 ga
      obtain ⟨i1, i2, i3⟩ := ok1 gb
      simp only [Part.ok, Part.dep, Part.wid]
      exact ⟨⟨h1, i1⟩, by omega, by omega⟩
    · simp [Part.ok, Part.dep, Part.wid]
  exact ⟨by rw [List.length_take]; omega, (List.take_sublist _ _).nodup W.nd, fun x hx => W.w x (List.mem_of_mem_take hx), all.1, Nat.le_succ_of_le h.sz, Nat.le_succ_of_le all.2.1, Nat.le_trans all.2.2 (by decide)⟩
def spProgram (K : PySem.W.Frag) : Sp := fun vs H Q _ => ∃ (bx il : Addr) (d : Int), vs = [.ref bx, .int d] ∧ Box H bx il ∧ 1 ≤ d ∧ d ≤ 5 ∧
  ∀ ins p v H', Drawn d ins p → Dp K H' v (encP ins p) → Fr (cB bx il) H H' → Box H' bx il → Q v H'
def words4 : List (List Str) := [["a", "ab", "b"], ["x", "y", "z"], ["f", "fun", "let"], ["abc", "abcd", "bcda", "ab", "b"]]
theorem wsOk4 : ∀ ws ∈ words4, WsOk ws := fun ws h => by
  simp only [words4, List.mem_cons, List.mem_singleton, List.not_mem_nil, or_false] at h
  rcases h with rfl | rfl | rfl | rfl
  all_goals exact ⟨by decide +kernel, by decide +kernel, by decide, by decide⟩
def t_program (K : PySem.W.Frag) : TS :=
  (tSeq (tAsg (tLst (tCons (tLst (tCons (tC (.str "a")) (tCons (tC (.str "ab")) (tCons (tC (.str "b")) tNil)))) (tCons (tLst (tCons (tC (.str "x")) (tCons (tC (.str "y")) (tCons (tC (.str "z")) tNil)))) (tCons (tLst (tCons (tC (.str "f")) (tCons (tC (.str "fun")) (tCons (tC (.str "let")) tNil)))) (tCons (tLst (tCons (tC (.str "abc")) (tCons (tC (.str "abcd")) (tCons (tC (.str "bcda")) (tCons (tC (.str "ab")) (tCons (tC (.str "b")) tNil)))))) tNil))))) (gName 2))
    (tSeq (tAsg (tOp (rIxL K) (tVar 2) (tCall spTake [] C8.E0 (tCons (tVar 0) (tCons (tC (.int 4)) tNil)))) (gName 3))
    (tSeq (tAsg (tSl (rSlL K) (tVar 3) tNoPart (tPart (tCall spTake [] C8.E0 (tCons (tVar 0) (tCons (tC (.int 4)) tNil))))) (gName 4))
    (tSeq (tAsg (tCall (spPart K 7) [] C8.E0 (tCons (tVar 0) (tCons (tVar 1) (tCons (tVar 4) (tCons (tLst tNil) (tCons (tVar 3) tNil)))))) (gName 5))
    (tSeq (tIfS (tTest (tOp rEq (tCall spTake [] C8.E0 (tCons (tVar 0) (tCons (tC (.int 8)) tNil))) (tC (.int 7)))) (tAsg (tTup (tCons (tC (.str "add")) (tCons (tVar 5) (tCons (tCall (spPart K 7) [] C8.E0 (tCons (tVar 0) (tCons (tVar 1) (tCons (tVar 4) (tCons (tLst tNil) (tCons (tVar 3) tNil)))))) tNil)))) (gName 5)) tNext)
    (tRet (tTup (tCons (tCB (rTupSq K) (tCons (tVar 4) tNil)) (tCons (tIf (tTest (tOp oLt (tCall (spSize K 20) [] C8.E0 (tCons (tVar 5) tNil)) (tC (.int 200)))) (tVar 5) (tTup (tCons (tC (.str "say")) (tCons (tTup (tCons (tC (.str "num")) (tCons (tC (.int 7)) tNil))) tNil)))) tNil)))))))))
theorem pure_program {K : PySem.W.Frag} (vs : List V) (H : Hp) (Q : VK) (E : XK) (h : spProgram K vs H Q E) : t_program K { nx := fun _ H' => Q .non H', rt := Q } (start ["box", "deep", "some", "words", "inputs", "part"] vs) H := by
  obtain ⟨bx, il, d, rfl, B, hd1, hd5, k⟩ := h
  -- the words
  refine ⟨one_sz (by show 3 ≤ 1000; decide), fun p1 h1 => ⟨one_sz (by show 3 ≤ 1000; decide), fun p2 h2 => ⟨one_sz (by show 3 ≤ 1000; decide), fun p3 h3 => ⟨one_sz (by show 5 ≤ 1000; decide), fun p4 h4 => ⟨one_sz (by show 4 ≤ 1000; decide), fun s hs => ?_⟩⟩⟩⟩⟩
  generalize e1 : upd H p1 (.lst [.str "a", .str "ab", .str "b"]) = H1 at *
  have M1 : Ls H1 bx il p1 ((["a", "ab", "b"] : List Str).map V.str) := by rw [← e1]; exact Ls.new B h1
  have B1 : Box H1 bx il := by rw [← e1]; exact B.new h1
  have f1 : Fr (cB bx il) H H1 := by rw [← e1]; exact Fr.new h1
  generalize e2 : upd H1 p2 (.lst [.str "x", .str "y", .str "z"]) = H2 at *
  have f2 : Fr (cB bx il) H1 H2 := by rw [← e2]; exact Fr.new h2
  have M2 : Ls H2 bx il p2 ((["x", "y", "z"] : List Str).map V.str) := by rw [← e2]; exact Ls.new B1 h2
  have B2 : Box H2 bx il := by rw [← e2]; exact B1.new h2
  generalize e3 : upd H2 p3 (.lst [.str "f", .str "fun", .str "let"]) = H3 at *
  have f3 : Fr (cB bx il) H2 H3 := by rw [← e3]; exact Fr.new h3
  have M3 : Ls H3 bx il p3 ((["f", "fun", "let"] : List Str).map V.str) := by rw [← e3]; exact Ls.new B2 h3
  have B3 : Box H3 bx il := by rw [← e3]; exact B2.new h3
  generalize e4 : upd H3 p4 (.lst [.str "abc", .str "abcd", .str "bcda", .str "ab", .str "b"]) = H4 at *
  have f4 : Fr (cB bx il) H3 H4 := by rw [← e4]; exact Fr.new h4
  have M4 : Ls H4 bx il p4 ((["abc", "abcd", "bcda", "ab", "b"] : List Str).map V.str) := by rw [← e4]; exact Ls.new B3 h4
  have B4 : Box H4 bx il := by rw [← e4]; exact B3.new h4
  generalize e5 : upd H4 s (.lst [.ref p1, .ref p2, .ref p3, .ref p4]) = H5 at *
  have f5 : Fr (cB bx il) H4 H5 := by rw [← e5]; exact Fr.new hs
  have M5 : Ls H5 bx il s [.ref p1, .ref p2, .ref p3, .ref p4] := by rw [← e5]; exact Ls.new B4 hs
  have B5 : Box H5 bx il := by rw [← e5]; exact B4.new hs
  have f05 : Fr (cB bx il) H H5 := (((f1.trans f2).trans f3).trans f4).trans f5
  refine ⟨_, rfl, _, rfl, bx, il, 4, rfl, B5, by decide, by decide, fun r H6 r0 r1 f6 B6 => ?_⟩
  have pick : ∃ (w : Addr) (ws : List Str), atI [V.ref p1, .ref p2, .ref p3, .ref p4] r = some (.ref w) ∧ Ls H6 bx il w (ws.map V.str) ∧ WsOk ws := by
    have hr : r = 0 ∨ r = 1 ∨ r = 2 ∨ r = 3 := by omega
    rcases hr with rfl | rfl | rfl | rfl
    · exact ⟨p1, _, rfl, ((((M1.fr f2).fr f3).fr f4).fr f5).fr f6, wsOk4 _ (by simp [words4])⟩
    · exact ⟨p2, _, rfl, (((M2.fr f3).fr f4).fr f5).fr f6, wsOk4 _ (by simp [words4])⟩
    · exact ⟨p3, _, rfl, ((M3.fr f4).fr f5).fr f6, wsOk4 _ (by simp [words4])⟩
    · exact ⟨p4, _, rfl, (M4.fr f5).fr f6, wsOk4 _ (by simp [words4])⟩
  obtain ⟨w, ws, hat, Lw, W⟩ := pick
  refine ⟨s, _, _, _, rfl, rfl, (M5.fr f6).sq, hat, ?_⟩
  have lw : (ws.map V.str).length = ws.length := List.length_map _
  -- the inputs
  refine ⟨_, rfl, _, rfl, bx, il, 4, rfl, B6, by decide, by decide, fun r2 H7 r20 r21 f7 B7 => ?_⟩
  have Lw7 := Lw.fr f7
  refine ⟨_, rfl, w, _, rfl, Lw7.sq, fun q hq => ?_⟩
  have w3 := W.l3
  rw [cut_to r20 (by rw [lw]; omega), ← List.map_take]
  have B8 := B7.new (o := .lst ((ws.take r2.toNat).map V.str)) hq
  have Lq8 : Ls (upd H7 q (.lst ((ws.take r2.toNat).map V.str))) bx il q ((ws.take r2.toNat).map V.str) := Ls.new B7 hq
  have f8 : Fr (cB bx il) H7 (upd H7 q (.lst ((ws.take r2.toNat).map V.str))) := Fr.new hq
  have Lw8 := Lw7.fr f8
  generalize upd H7 q (.lst ((ws.take r2.toNat).map V.str)) = H8 at *
  have f08 : Fr (cB bx il) H H8 := ((f05.trans f6).trans f7).trans f8
  have hk : r2.toNat ≤ 3 := by omega
  have gd : gdep d ≤ 13 := by unfold gdep; split <;> omega
  have fin : ∀ (H' : Hp) (p : Part) (v : V), Dp K H' v p.enc → (Gen ws d (ws.take r2.toNat) [] p ∨ (∃ a b, p = .add a b ∧ Gen ws d (ws.take r2.toNat) [] a ∧ Gen ws d (ws.take r2.toNat) [] b)) → p.dep ≤ 14 → p.wid ≤ 4 → Fr (cB bx il) H8 H' → Box H' bx il →
      (tRet (tTup (tCons (tCB (rTupSq K) (tCons (tVar 4) tNil)) (tCons (tIf (tTest (tOp oLt (tCall (spSize K 20) [] C8.E0 (tCons (tVar 5) tNil)) (tC (.int 200)))) (tVar 5) (tTup (tCons (tC (.str "say")) (tCons (tTup (tCons (tC (.str "num")) (tCons (tC (.int 7)) tNil))) tNil)))) tNil))))
        { nx := fun _ H' => Q .non H', rt := Q } [some (.ref bx), some (.int d), some (.ref s), some (.ref w), some (.ref q), some v] H' := fun H' p v dv g hdep hwid f' B' => by
    have Lq' := Lq8.fr f'
    refine ⟨_, rfl, q, _, rfl, .inl ⟨Lq'.sq, fun ti hti => ?_⟩⟩
    have g1 : Fr (cB bx il) H' (upd H' ti (.tup ((ws.take r2.toNat).map V.str))) := Fr.new hti
    have dv1 := Dp.fr g1 _ _ (tup_enc p) dv
    have B1' := B'.new (o := .tup ((ws.take r2.toNat).map V.str)) hti
    have T1 : SqT K (upd H' ti (.tup ((ws.take r2.toNat).map V.str))) ti ((ws.take r2.toNat).map V.str) := SqT.of upd_same
    generalize upd H' ti (.tup ((ws.take r2.toNat).map V.str)) = H'1 at *
    refine ⟨_, rfl, v, p, rfl, dv1, by omega, by omega, fun H'2 f2 => ⟨_, _, rfl, rfl, _, rfl, ?_⟩⟩
    have f2' : Fr (cB bx il) H'1 H'2 := f2.of0
    have T2 := f2'.sqT T1
    have B2' : Box H'2 bx il := by
      obtain ⟨ns, sd, i1, i2, i3⟩ := B1'.ex
      exact ⟨ns, sd, f2.at i1 (fun z => z), f2.at i2 (fun z => z), i3⟩
    have f02 : Fr (cB bx il) H H'2 := ((f08.trans f').trans g1).trans f2'
    have dv2 := Dp.fr f2' _ _ (tup_enc p) dv1
    refine ite2 (fun hlt => ?_) fun _ => ?_
    · have hlt : (p.size : Int) < 200 := of_decide_eq_true hlt
      refine ⟨_, rfl, one_sz (by show 2 ≤ 1000; decide), fun t ht => ?_⟩
      refine k (ws.take r2.toNat) p _ _ ⟨⟨ws, r2.toNat, W, hk, rfl, g.elim Or.inl fun z => Or.inr (Or.inl z)⟩, by omega⟩ ?_ (f02.trans (Fr.new ht)) (B2'.new ht)
      exact .tup (SqT.of upd_same) (.cons (.tup ((Fr.new (C := c0) ht).sqT T2) (DpAll.strs _)) (.cons (Dp.fr (Fr.new (C := c0) ht) _ _ (tup_enc p) dv2) .nil))
    · refine ⟨one_sz (by show 2 ≤ 1000; decide), fun t1 h1 => ⟨one_sz (by show 2 ≤ 1000; decide), fun t2 h2 => ⟨one_sz (by show 2 ≤ 1000; decide), fun t ht => ?_⟩⟩⟩
      refine k (ws.take r2.toNat) (.say (.num 7)) _ _ ⟨⟨ws, r2.toNat, W, hk, rfl, Or.inr (Or.inr rfl)⟩, by simp [Part.size]⟩ ?_ (((f02.trans (Fr.new h1)).trans (Fr.new h2)).trans (Fr.new ht)) (((B2'.new h1).new h2).new ht)
      have j1 : Fr c0 (upd H'2 t1 (.tup [.str "num", .int 7])) (upd (upd H'2 t1 (.tup [.str "num", .int 7])) t2 (.tup [.str "say", .ref t1])) := Fr.new h2
      have j2 : Fr c0 (upd (upd H'2 t1 (.tup [.str "num", .int 7])) t2 (.tup [.str "say", .ref t1])) (upd (upd (upd H'2 t1 (.tup [.str "num", .int 7])) t2 (.tup [.str "say", .ref t1])) t (.tup [.ref ti, .ref t2])) := Fr.new ht
      refine .tup (SqT.of upd_same) (.cons (.tup ((((Fr.new h1).trans j1).trans j2 : Fr c0 _ _).sqT T2) (DpAll.strs _)) (.cons ?_ .nil))
      simp only [Part.enc]
      exact .tup (j2.sqT (SqT.of upd_same)) (.cons (.str _) (.cons (.tup ((j1.trans j2).sqT (SqT.of upd_same)) (.cons (.str _) (.cons (.int _) .nil))) .nil))
  -- the part
  have top : ∀ {H' : Hp} {e : Addr}, Fr (cB bx il) H8 H' → Box H' bx il → H' e = none → GenPre K (upd H' e (.lst [])) bx il d q e w (ws.take r2.toNat) [] [] ws := fun {H' e} f' B' he => by
    have g : Fr (cB bx il) H8 (upd H' e (.lst [])) := f'.trans (Fr.new he)
    exact ⟨B'.new he, Lq8.fr g, fun x hx => W.w x (List.mem_of_mem_take hx), Ls.new B' he, .nil, fun _ h => by simp at h, Lw8.fr g, W.w, W.nd, W.l3, W.l5, by rw [List.length_take]; omega, by simp; omega, fun _ h => by simp at h, by omega, hd5⟩
  refine ⟨_, rfl, _, rfl, _, rfl, one_sz (Nat.zero_le _), fun e he => ?_⟩
  refine ⟨_, rfl, bx, il, q, e, w, d, ws.take r2.toNat, [], [], ws, rfl, top (Fr.refl _) B8 he, by omega, fun pa va H10 ga da f10 B10 => ?_⟩
  have f810 : Fr (cB bx il) H8 H10 := (Fr.new he).trans f10
  have dga := gen_dep ga
  have wga := gen_wid ga fun e he => by simp at he
  refine ⟨_, rfl, bx, il, 8, rfl, B10, by decide, by decide, fun r3 H11 r30 r31 f11 B11 => ⟨rfl, _, rfl, ?_⟩⟩
  have f811 := f810.trans f11
  have da11 := Dp.fr f11 _ _ (tup_enc pa) da
  refine ite2 (fun _ => ?_) fun _ => fin H11 pa va da11 (.inl ga) (by omega) wga f811 B11
  refine ⟨_, rfl, _, rfl, _, rfl, _, rfl, one_sz (Nat.zero_le _), fun e2 he2 => ?_⟩
  refine ⟨_, rfl, bx, il, q, e2, w, d, ws.take r2.toNat, [], [], ws, rfl, top f811 B11 he2, by omega, fun pb vb H12 gb db f12 B12 => ⟨one_sz (by show 3 ≤ 1000; decide), fun t ht => ?_⟩⟩
  have f1112 : Fr (cB bx il) H11 H12 := (Fr.new he2).trans f12
  have dgb := gen_dep gb
  have wgb := gen_wid gb fun e he => by simp at he
  refine fin _ (.add pa pb) (.ref t) ?_ (.inr ⟨pa, pb, rfl, ga, gb⟩) (by simp only [Part.dep]; omega) (by simp only [Part.wid]; omega) ((f811.trans f1112).trans (Fr.new ht)) (B12.new ht)
  simp only [Part.enc]
  exact .tup (SqT.of upd_same) (.cons (.str _) (.cons (Dp.fr (f1112.trans (Fr.new ht)) _ _ (tup_enc pa) da11) (.cons (Dp.fr (Fr.new (C := c0) ht) _ _ (tup_enc pb) db) .nil)))
end BN
namespace BN
open PySem L2
/-! ### what a program means: piles of rooms -/
abbrev Room := List (Str × Int)
abbrev Row := Str × Nat × Int
structure Out where
  v : Int
  rows : List Row
  said : List Int
def Out.bnd (a : Out) (f : Int → Out) : Out := ⟨(f a.v).v, a.rows ++ (f a.v).rows, a.said ++ (f a.v).said⟩
def Out.len (o : Out) : Nat := o.rows.length + o.said.length
def hasR (P : List Room) (x : Str) : Prop := ∃ r ∈ P, (r.lookup x).isSome = true
/-- from the uppermost room on: how many rooms are passed, the number -/
def rdR : List Room → Str → Nat × Int
  | [], _ => (0, 0)
  | r :: t, x => match r.lookup x with
    | some n => (0, n)
    | none => ((rdR t x).1 + 1, (rdR t x).2)
def rd (P : List Room) (x : Str) : Nat × Int := rdR P.reverse x
abbrev SEnv := Str → Option (List Int → List Room → Out)
mutual
def den (near : Bool) : Part → SEnv → List Room → Out
  | .num n, _, _ => ⟨n, [], []⟩
  | .name x, _, P => ⟨(rd P x).2, [(x, (rd P x).1, (rd P x).2)], []⟩
  | .add a b, e, P => (den near a e P).bnd fun i => (den near b e P).bnd fun j => ⟨(i + j) % 100, [], []⟩
  | .less a b, e, P => (den near a e P).bnd fun i => (den near b e P).bnd fun j => ⟨if i < j then 1 else 0, [], []⟩
  | .ite c a b, e, P => (den near c e P).bnd fun i => if i = 0 then den near b e P else den near a e P
  | .say a, e, P => (den near a e P).bnd fun i => ⟨i, [], [i]⟩
  | .lt x a b, e, P => (den near a e P).bnd fun i => den near b e (P ++ [[(x, i)]])
  | .fn f ps b r, e, P => den near r (putN e f fun vs dyn => den near b e ((if near = true then P else dyn) ++ [ps.zip vs])) P
  | .call f as, e, P => match e f with
    | some g => ⟨(g ((dens near as e P).map (·.v)) P).v, (dens near as e P).flatMap (·.rows) ++ (g ((dens near as e P).map (·.v)) P).rows, (dens near as e P).flatMap (·.said) ++ (g ((dens near as e P).map (·.v)) P).said⟩
    | none => ⟨0, (dens near as e P).flatMap (·.rows), (dens near as e P).flatMap (·.said)⟩
def dens (near : Bool) : Parts → SEnv → List Room → List Out
  | .nil, _, _ => []
  | .cons p r, e, P => den near p e P :: dens near r e P
end
theorem dens_list (near : Bool) (e : SEnv) (P : List Room) : ∀ as : Parts, dens near as e P = as.list.map fun p => den near p e P
  | .nil => by simp [dens, Parts.list]
  | .cons p r => by simp [dens, Parts.list, dens_list near e P r]
/-- a function, where it stands -/
structure Fn where
  f : Str
  ps : List Str
  b : Part
  home : List Room
  ns : List Str
def sem (near : Bool) : List Fn → SEnv
  | [] => fun _ => none
  | e :: t => putN (sem near t) e.f fun vs dyn => den near e.b (sem near t) ((if near = true then e.home else dyn) ++ [e.ps.zip vs])
def arF : List Fn → FE0
  | [] => fun _ => none
  | e :: t => putN (arF t) e.f e.ps.length
/-! ### how deep, how much -/
def putD (d : Str → Nat) (f : Str) (n : Nat) : Str → Nat := fun g => if g = f then n else d g
mutual
def Part.dpt : Part → (Str → Nat) → Nat
  | .num _, _ => 1
  | .name _, _ => 1
  | .add a b, d => 1 + max (a.dpt d) (b.dpt d)
  | .less a b, d => 1 + max (a.dpt d) (b.dpt d)
  | .ite c a b, d => 1 + max (c.dpt d) (max (a.dpt d) (b.dpt d))
  | .say a, d => 1 + a.dpt d
  | .lt _ a b, d => 1 + max (a.dpt d) (b.dpt d)
  | .fn f _ b r, d => 1 + max (b.dpt d) (r.dpt (putD d f (b.dpt d)))
  | .call f as, d => 2 + max (as.dpt d) (d f)
def Parts.dpt : Parts → (Str → Nat) → Nat
  | .nil, _ => 0
  | .cons p r, d => max (p.dpt d) (r.dpt d)
end
mutual
def Part.cst : Part → (Str → Nat) → Nat
  | .num _, _ => 0
  | .name _, _ => 1
  | .add a b, d => a.cst d + b.cst d
  | .less a b, d => a.cst d + b.cst d
  | .ite c a b, d => c.cst d + max (a.cst d) (b.cst d)
  | .say a, d => a.cst d + 1
  | .lt _ a b, d => a.cst d + b.cst d
  | .fn f _ b r, d => r.cst (putD d f (b.cst d))
  | .call f as, d => as.cst d + d f
def Parts.cst : Parts → (Str → Nat) → Nat
  | .nil, _ => 0
  | .cons p r, d => p.cst d + r.cst d
end
theorem dpt_pos (p : Part) (d : Str → Nat) : 1 ≤ p.dpt d := by cases p <;> simp [Part.dpt] <;> omega
theorem dpt_list {d : Str → Nat} : ∀ {as : Parts} {q : Part}, q ∈ as.list → q.dpt d ≤ as.dpt d
  | .nil, q, h => by simp [Parts.list] at h
  | .cons p r, q, h => by
    have e : (Parts.cons p r).dpt d = max (p.dpt d) (r.dpt d) := by simp [Parts.dpt]
    rcases List.mem_cons.mp (by simpa [Parts.list] using h : q ∈ p :: r.list) with rfl | h
    · omega
    · have := dpt_list (d := d) h; omega
def dlt : List Fn → Str → Nat
  | [] => fun _ => 0
  | e :: t => putD (dlt t) e.f (e.b.dpt (dlt t))
def cnt : List Fn → Str → Nat
  | [] => fun _ => 0
  | e :: t => putD (cnt t) e.f (e.b.cst (cnt t))
theorem Out.len_bnd (a : Out) (f : Int → Out) : (a.bnd f).len = a.len + (f a.v).len := by
  simp only [Out.bnd, Out.len, List.length_append]; omega
def Bnd (e : SEnv) (d : Str → Nat) : Prop := ∀ f g, e f = some g → ∀ vs P, (g vs P).len ≤ d f
theorem Bnd.put {e : SEnv} {d : Str → Nat} (h : Bnd e d) {f : Str} {g : List Int → List Room → Out} {n : Nat} (hg : ∀ vs P, (g vs P).len ≤ n) : Bnd (putN e f g) (putD d f n) := fun x g' hx vs P => by
  unfold putN at hx
  unfold putD
  by_cases q : x = f
  · rw [if_pos q] at hx ⊢; cases hx; exact hg vs P
  · rw [if_neg q] at hx ⊢; exact h x g' hx vs P
mutual
theorem den_len (near : Bool) : ∀ (p : Part) (e : SEnv) (P : List Room) (d : Str → Nat), Bnd e d → (den near p e P).len ≤ p.cst d
  | .num n, e, P, d, h => by simp [den, Out.len]
  | .name x, e, P, d, h => by simp [den, Out.len, Part.cst]
  | .add a b, e, P, d, h => by
    have h1 := den_len near a e P d h
    have h2 := den_len near b e P d h
    simp only [den, Out.len_bnd, Part.cst]
    have : (⟨((den near a e P).v + (den near b e P).v) % 100, [], []⟩ : Out).len = 0 := rfl
    omega
  | .less a b, e, P, d, h => by
    have h1 := den_len near a e P d h
    have h2 := den_len near b e P d h
    simp only [den, Out.len_bnd, Part.cst]
    have : (⟨if (den near a e P).v < (den near b e P).v then 1 else 0, [], []⟩ : Out).len = 0 := rfl
    omega
  | .ite c a b, e, P, d, h => by
    have h0 := den_len near c e P d h
    have h1 := den_len near a e P d h
    have h2 := den_len near b e P d h
    simp only [den, Out.len_bnd, Part.cst]
    split <;> omega
  | .say a, e, P, d, h => by
    have h1 := den_len near a e P d h
    simp only [den, Out.len_bnd, Part.cst]
    have : (⟨(den near a e P).v, [], [(den near a e P).v]⟩ : Out).len = 1 := rfl
    omega
  | .lt x a b, e, P, d, h => by
    have h1 := den_len near a e P d h
    have h2 := den_len near b e (P ++ [[(x, (den near a e P).v)]]) d h
    simp only [den, Out.len_bnd, Part.cst]
    omega
  | .fn f ps b r, e, P, d, h => by
    simp only [den, Part.cst]
    exact den_len near r _ P _ (h.put fun vs Q => den_len near b e _ d h)
  | .call f as, e, P, d, h => by
    have h1 := dens_len near as e P d h
    simp only [den, Part.cst]
    cases q : e f with
    | none => simp only [Out.len]; omega
    | some g =>
      have h2 := h f g q ((dens near as e P).map (·.v)) P
      simp only [Out.len, List.length_append] at h2 ⊢
      omega
theorem dens_len (near : Bool) : ∀ (as : Parts) (e : SEnv) (P : List Room) (d : Str → Nat), Bnd e d → ((dens near as e P).flatMap (·.rows)).length + ((dens near as e P).flatMap (·.said)).length ≤ as.cst d
  | .nil, e, P, d, h => by simp [dens]
  | .cons p r, e, P, d, h => by
    have h1 := den_len near p e P d h
    have h2 := dens_len near r e P d h
    simp only [dens, List.flatMap_cons, List.length_append, Parts.cst]
    simp only [Out.len] at h1
    omega
end
theorem sem_bnd (near : Bool) : ∀ fe : List Fn, Bnd (sem near fe) (cnt fe)
  | [] => fun f g h => by simp [sem] at h
  | e :: t => (sem_bnd near t).put fun vs P => den_len near e.b _ _ _ (sem_bnd near t)
/-! ### what may be evaluated where -/
def EOk : List Fn → List Room → Prop
  | [], _ => True
  | e :: t, P => EOk t P ∧ EOk t e.home ∧ (∀ x ∈ e.ns, hasR P x) ∧ (∀ x ∈ e.ns, hasR e.home x) ∧ e.b.ok (e.ns ++ e.ps) (arF t) ∧ e.ps.Nodup ∧ e.ps.length ≤ 12 ∧ e.home.length + 1 + e.b.dpt (dlt t) ≤ 1000 ∧ t.length + e.b.dpt (dlt t) ≤ 1000 ∧ e.b.wid ≤ 1000 ∧ e.home ≠ [] ∧ (∀ x ∈ e.ns ++ e.ps, wordB x = true)
theorem EOk.mono : ∀ {fe : List Fn} {P P' : List Room}, EOk fe P → (∀ x, hasR P x → hasR P' x) → EOk fe P'
  | [], _, _, _, _ => trivial
  | e :: t, P, P', h, k => ⟨EOk.mono h.1 k, h.2.1, fun x hx => k x (h.2.2.1 x hx), h.2.2.2⟩
theorem hasR.app {P : List Room} {x : Str} (h : hasR P x) (Q : List Room) : hasR (P ++ Q) x := by
  obtain ⟨r, hr, e⟩ := h
  exact ⟨r, List.mem_append_left _ hr, e⟩
theorem lookup_zip : ∀ {ps : List Str} {vs : List Int} {x : Str}, ps.length = vs.length → x ∈ ps → ((ps.zip vs).lookup x).isSome = true
  | p :: ps, [], x, hl, _ => by simp at hl
  | p :: ps, v :: vs, x, hl, h => by
    by_cases e : x = p
    · subst e; simp [List.lookup]
    · have q : (x == p) = false := by simpa using e
      have h' : x ∈ ps := by
        rcases List.mem_cons.mp h with z | z
        · exact absurd z e
        · exact z
      simp only [List.zip_cons_cons, List.lookup, q]
      exact lookup_zip (by simpa using hl) h'
theorem hasR.zip {P : List Room} {ps : List Str} {vs : List Int} {x : Str} (hl : ps.length = vs.length) (h : x ∈ ps) : hasR (P ++ [ps.zip vs]) x :=
  ⟨ps.zip vs, List.mem_append_right _ (List.mem_singleton.mpr rfl), lookup_zip hl h⟩
theorem hasR.one (P : List Room) (x : Str) (i : Int) : hasR (P ++ [[(x, i)]]) x := ⟨_, List.mem_append_right _ (List.mem_singleton.mpr rfl), by simp [List.lookup]⟩
/-- the function of a name -/
theorem env_at (near : Bool) : ∀ {fe : List Fn} {f : Str} {n : Nat} {P : List Room}, arF fe f = some n → EOk fe P → ∃ (e : Fn) (t l : List Fn), fe = l ++ e :: t ∧ e.f = f ∧ (∀ x ∈ l, x.f ≠ f) ∧ e.ps.length = n ∧ EOk (e :: t) P ∧ dlt fe f = e.b.dpt (dlt t) ∧ cnt fe f = e.b.cst (cnt t) ∧
    sem near fe f = some (fun vs dyn => den near e.b (sem near t) ((if near = true then e.home else dyn) ++ [e.ps.zip vs]))
  | [], f, n, P, h, _ => by simp [arF] at h
  | e :: t, f, n, P, h, E => by
    by_cases q : f = e.f
    · subst q
      refine ⟨e, t, [], rfl, rfl, fun _ z => by simp at z, ?_, E, by simp [dlt, putD], by simp [cnt, putD], by simp [sem, putN]⟩
      simpa [arF, putN] using h
    · have h' : arF t f = some n := by simpa [arF, putN, q] using h
      obtain ⟨e', t', l, rfl, h1, h2, h3, h4, h5, h6, h7⟩ := env_at near h' E.1
      refine ⟨e', t', e :: l, rfl, h1, fun x hx => ?_, h3, h4, by simpa [dlt, putD, q] using h5, by simpa [cnt, putD, q] using h6, by simpa [sem, putN, q] using h7⟩
      rcases List.mem_cons.mp hx with rfl | hx
      · exact fun z => q z.symm
      · exact h2 x hx
end BN
namespace BN
open PySem L2
/-! ### how deep and how much a drawn program goes -/
def gA : Nat → Nat
  | 0 => 1
  | 1 => 6
  | n + 2 => 2 * gA (n + 1) + 2
theorem gA_step (n : Nat) : 2 * gA n + 2 ≤ gA (n + 1) ∧ gA n + 5 ≤ gA (n + 1) ∧ 1 ≤ gA n := by
  induction n with
  | zero => decide
  | succ n ih => simp only [gA]; omega
theorem gA_mono {m n : Nat} (h : m ≤ n) : gA m ≤ gA n := by
  induction n with
  | zero => have : m = 0 := by omega
            subst this; exact Nat.le_refl _
  | succ n ih =>
    by_cases e : m = n + 1
    · subst e; exact Nat.le_refl _
    · have := ih (by omega)
      have := gA_step n
      omega
theorem leaf_dpt {names : List Str} {p : Part} (h : Leaf names p) (d : Str → Nat) : p.dpt d = 1 := by cases h <;> simp [Part.dpt]
theorem parts_dpt {d : Str → Nat} : ∀ {l : List Part} {n : Nat}, (∀ a ∈ l, a.dpt d ≤ n) → (Parts.of l).dpt d ≤ n
  | [], _, _ => by simp [Parts.of, Parts.dpt]
  | p :: r, n, h => by
    have h1 := h p (by simp)
    have h2 : (Parts.of r).dpt d ≤ n := parts_dpt fun a ha => h a (List.mem_cons_of_mem _ ha)
    simp only [Parts.of, Parts.dpt]; omega
theorem putD_le {δ : Str → Nat} {M n : Nat} (h : ∀ f, δ f ≤ M) (hM : M ≤ n) (f : Str) : ∀ g, putD δ f n g ≤ n := fun g => by
  unfold putD
  by_cases e : g = f
  · rw [if_pos e]; exact Nat.le_refl _
  · rw [if_neg e]; have := h g; omega
theorem putD_le' {δ : Str → Nat} {M n m : Nat} (h : ∀ f, δ f ≤ M) (hM : M ≤ n) (hm : m ≤ n) (f : Str) : ∀ g, putD δ f m g ≤ n := fun g => by
  unfold putD
  by_cases e : g = f
  · rw [if_pos e]; exact hm
  · rw [if_neg e]; have := h g; omega
theorem gen_dpt {ws : List Str} {d names funs p} (h : Gen ws d names funs p) : ∀ (δ : Str → Nat) (M : Nat), (∀ f, δ f ≤ M) → p.dpt δ ≤ gA d.toNat + M := by
  have st : ∀ {d : Int}, 0 < d → 2 * gA (d - 1).toNat + 2 ≤ gA d.toNat ∧ gA (d - 1).toNat + 5 ≤ gA d.toNat ∧ gA (d - 2).toNat ≤ gA (d - 1).toNat ∧ 1 ≤ gA (d - 1).toNat := fun {d} h0 => by
    have e : d.toNat = (d - 1).toNat + 1 := by omega
    have := gA_step (d - 1).toNat
    rw [e]
    exact ⟨this.1, this.2.1, gA_mono (by omega), this.2.2⟩
  induction h with
  | leaf h => intro δ M hM; rw [leaf_dpt h]; have := (gA_step (Int.toNat ‹Int›)).2.2; omega
  | @fn d names funs f ps b r h0 _ _ _ _ _ _ ib ir =>
    intro δ M hM
    have s := st h0
    have h1 := ib δ M hM
    have h2 := ir (putD δ f (b.dpt δ)) _ (putD_le' hM (Nat.le_add_left M _) h1 f)
    simp only [Part.dpt]; omega
  | @fnc d names funs f ps b r w l as h0 _ _ _ _ _ _ _ hle has _ ib ir =>
    intro δ M hM
    have s := st h0
    have h1 := ib δ M hM
    have h2 := ir (putD δ f (b.dpt δ)) _ (putD_le' hM (Nat.le_add_left M _) h1 f)
    have h3 := leaf_dpt hle (putD δ f (b.dpt δ))
    have h4 := parts_dpt (d := putD δ f (b.dpt δ)) (n := 1) fun a ha => Nat.le_of_eq (leaf_dpt (has a ha) _)
    have h5 : putD δ f (b.dpt δ) f = b.dpt δ := by simp [putD]
    simp only [Part.dpt]; omega
  | lt h0 _ _ _ ia ib =>
    intro δ M hM
    have s := st h0
    have h1 := ia δ M hM
    have h2 := ib δ M hM
    simp only [Part.dpt]; omega
  | @call d names funs f as h0 _ _ ih =>
    intro δ M hM
    have s := st h0
    have h1 := parts_dpt (d := δ) fun a ha => ih a ha δ M hM
    have h2 := hM f
    simp only [Part.dpt]; omega
  | say h0 _ ih =>
    intro δ M hM
    have s := st h0
    have h1 := ih δ M hM
    simp only [Part.dpt]; omega
  | ite h0 _ _ hl ic ia =>
    intro δ M hM
    have s := st h0
    have h1 := ic δ M hM
    have h2 := ia δ M hM
    have h3 := leaf_dpt hl δ
    simp only [Part.dpt]; omega
  | add h0 _ _ ia ib =>
    intro δ M hM
    have s := st h0
    have h1 := ia δ M hM
    have h2 := ib δ M hM
    simp only [Part.dpt]; omega
  | less h0 _ _ ia ib =>
    intro δ M hM
    have s := st h0
    have h1 := ia δ M hM
    have h2 := ib δ M hM
    simp only [Part.dpt]; omega
def kA (d : Int) : Nat := if d ≤ 0 then 1 else if d = 1 then 7 else if d = 2 then 26 else if d = 3 then 109 else if d = 4 then 877 else 38593
def kB (d : Int) : Nat := if d ≤ 0 then 0 else if d = 1 then 1 else if d = 2 then 2 else if d = 3 then 6 else if d = 4 then 42 else 1806
theorem c_tab {d : Int} (h0 : 0 < d) (h5 : d ≤ 5) : (kA d = 7 ∧ kB d = 1 ∧ kA (d - 1) = 1 ∧ kB (d - 1) = 0 ∧ kA (d - 2) = 1 ∧ kB (d - 2) = 0) ∨ (kA d = 26 ∧ kB d = 2 ∧ kA (d - 1) = 7 ∧ kB (d - 1) = 1 ∧ kA (d - 2) = 1 ∧ kB (d - 2) = 0) ∨
    (kA d = 109 ∧ kB d = 6 ∧ kA (d - 1) = 26 ∧ kB (d - 1) = 2 ∧ kA (d - 2) = 7 ∧ kB (d - 2) = 1) ∨ (kA d = 877 ∧ kB d = 42 ∧ kA (d - 1) = 109 ∧ kB (d - 1) = 6 ∧ kA (d - 2) = 26 ∧ kB (d - 2) = 2) ∨
    (kA d = 38593 ∧ kB d = 1806 ∧ kA (d - 1) = 877 ∧ kB (d - 1) = 42 ∧ kA (d - 2) = 109 ∧ kB (d - 2) = 6) := by
  have : d = 1 ∨ d = 2 ∨ d = 3 ∨ d = 4 ∨ d = 5 := by omega
  rcases this with rfl | rfl | rfl | rfl | rfl
  · exact .inl (by decide)
  · exact .inr (.inl (by decide))
  · exact .inr (.inr (.inl (by decide)))
  · exact .inr (.inr (.inr (.inl (by decide))))
  · exact .inr (.inr (.inr (.inr (by decide))))
theorem leaf_cst {names : List Str} {p : Part} (h : Leaf names p) (d : Str → Nat) : p.cst d ≤ 1 := by cases h <;> simp [Part.cst]
theorem parts_cst {d : Str → Nat} {n : Nat} : ∀ {l : List Part}, (∀ a ∈ l, a.cst d ≤ n) → (Parts.of l).cst d ≤ l.length * n
  | [], _ => by simp [Parts.of, Parts.cst]
  | p :: r, h => by
    have h1 := h p (by simp)
    have h2 := parts_cst (d := d) (n := n) (l := r) fun a ha => h a (List.mem_cons_of_mem _ ha)
    simp only [Parts.of, Parts.cst, List.length_cons, Nat.succ_mul]; omega
theorem parts_cst4 {d : Str → Nat} {n : Nat} {l : List Part} (h4 : l.length ≤ 4) (h : ∀ a ∈ l, a.cst d ≤ n) : (Parts.of l).cst d ≤ 4 * n :=
  Nat.le_trans (parts_cst h) (Nat.mul_le_mul_right n h4)
theorem gen_cst {ws : List Str} {d names funs p} (h : Gen ws d names funs p) : d ≤ 5 → (∀ e ∈ funs, e.2 ≤ 4) → ∀ (ν : Str → Nat) (M : Nat), (∀ f, ν f ≤ M) → p.cst ν ≤ kA d + kB d * M := by
  have kn : ∀ {funs : List (Str × Nat)} {f : Str} {n : Nat}, n ≤ 4 → (∀ e ∈ funs, e.2 ≤ 4) → ∀ e ∈ known funs f n, e.2 ≤ 4 := fun h0 h e he => by
    rcases List.mem_append.mp he with q | q
    · exact h e (List.mem_filter.mp q).1
    · rw [List.mem_singleton.mp q]; exact h0
  induction h with
  | @leaf d names funs p h =>
    intro h5 q ν M hM
    have h1 := leaf_cst h ν
    have : 1 ≤ kA d := by
      by_cases h0 : 0 < d
      · rcases c_tab h0 h5 with t | t | t | t | t <;> omega
      · unfold kA; rw [if_pos (by omega)]; omega
    omega
  | @fn d names funs f ps b r h0 _ _ _ hl _ _ ib ir =>
    intro h5 q ν M hM
    have h1 := ib (by omega) q ν M hM
    have h2 := ir (by omega) (kn hl q) (putD ν f (b.cst ν))
    simp only [Part.cst]
    rcases c_tab h0 h5 with ⟨t1, t2, t3, t4, t5, t6⟩ | ⟨t1, t2, t3, t4, t5, t6⟩ | ⟨t1, t2, t3, t4, t5, t6⟩ | ⟨t1, t2, t3, t4, t5, t6⟩ | ⟨t1, t2, t3, t4, t5, t6⟩ <;> rw [t3, t4] at h1 h2 <;> rw [t1, t2]
    · have h3 := h2 (1 + M) (putD_le' hM (by omega) (by omega) f); omega
    · have h3 := h2 (7 + 1 * M) (putD_le' hM (by omega) (by omega) f); omega
    · have h3 := h2 (26 + 2 * M) (putD_le' hM (by omega) (by omega) f); omega
    · have h3 := h2 (109 + 6 * M) (putD_le' hM (by omega) (by omega) f); omega
    · have h3 := h2 (877 + 42 * M) (putD_le' hM (by omega) (by omega) f); omega
  | @fnc d names funs f ps b r w l as h0 _ _ _ hl _ _ _ hle has hlen ib ir =>
    intro h5 q ν M hM
    have h1 := ib (by omega) q ν M hM
    have h2 := ir (by omega) (kn hl q) (putD ν f (b.cst ν))
    have h6 := leaf_cst hle (putD ν f (b.cst ν))
    have h7 := parts_cst4 (d := putD ν f (b.cst ν)) (n := 1) (l := as) (by omega) fun a ha => leaf_cst (has a ha) _
    have h8 : putD ν f (b.cst ν) f = b.cst ν := by simp [putD]
    simp only [Part.cst]
    rcases c_tab h0 h5 with ⟨t1, t2, t3, t4, t5, t6⟩ | ⟨t1, t2, t3, t4, t5, t6⟩ | ⟨t1, t2, t3, t4, t5, t6⟩ | ⟨t1, t2, t3, t4, t5, t6⟩ | ⟨t1, t2, t3, t4, t5, t6⟩ <;> rw [t3, t4] at h1 h2 <;> rw [t1, t2]
    · have h3 := h2 (1 + M) (putD_le' hM (by omega) (by omega) f); omega
    · have h3 := h2 (7 + 1 * M) (putD_le' hM (by omega) (by omega) f); omega
    · have h3 := h2 (26 + 2 * M) (putD_le' hM (by omega) (by omega) f); omega
    · have h3 := h2 (109 + 6 * M) (putD_le' hM (by omega) (by omega) f); omega
    · have h3 := h2 (877 + 42 * M) (putD_le' hM (by omega) (by omega) f); omega
  | @lt d names funs x a b h0 _ _ _ ia ib =>
    intro h5 q ν M hM
    have h1 := ia (by omega) q ν M hM
    have h2 := ib (by omega) q ν M hM
    simp only [Part.cst]
    rcases c_tab h0 h5 with ⟨t1, t2, t3, t4, t5, t6⟩ | ⟨t1, t2, t3, t4, t5, t6⟩ | ⟨t1, t2, t3, t4, t5, t6⟩ | ⟨t1, t2, t3, t4, t5, t6⟩ | ⟨t1, t2, t3, t4, t5, t6⟩ <;> rw [t5, t6] at h1 <;> rw [t3, t4] at h2 <;> rw [t1, t2] <;> omega
  | @call d names funs f as h0 hm _ ih =>
    intro h5 q ν M hM
    have h4 : as.length ≤ 4 := q _ hm
    have h1 := parts_cst4 (d := ν) h4 fun a ha => ih a ha (by omega) q ν M hM
    have h2 := hM f
    simp only [Part.cst]
    rcases c_tab h0 h5 with ⟨t1, t2, t3, t4, t5, t6⟩ | ⟨t1, t2, t3, t4, t5, t6⟩ | ⟨t1, t2, t3, t4, t5, t6⟩ | ⟨t1, t2, t3, t4, t5, t6⟩ | ⟨t1, t2, t3, t4, t5, t6⟩ <;> rw [t5, t6] at h1 <;> rw [t1, t2] <;> omega
  | @say d names funs a h0 _ ih =>
    intro h5 q ν M hM
    have h1 := ih (by omega) q ν M hM
    simp only [Part.cst]
    rcases c_tab h0 h5 with ⟨t1, t2, t3, t4, t5, t6⟩ | ⟨t1, t2, t3, t4, t5, t6⟩ | ⟨t1, t2, t3, t4, t5, t6⟩ | ⟨t1, t2, t3, t4, t5, t6⟩ | ⟨t1, t2, t3, t4, t5, t6⟩ <;> rw [t3, t4] at h1 <;> rw [t1, t2] <;> omega
  | @ite d names funs c a l h0 _ _ hl ic ia =>
    intro h5 q ν M hM
    have h1 := ic (by omega) q ν M hM
    have h2 := ia (by omega) q ν M hM
    have h3 := leaf_cst hl ν
    simp only [Part.cst]
    rcases c_tab h0 h5 with ⟨t1, t2, t3, t4, t5, t6⟩ | ⟨t1, t2, t3, t4, t5, t6⟩ | ⟨t1, t2, t3, t4, t5, t6⟩ | ⟨t1, t2, t3, t4, t5, t6⟩ | ⟨t1, t2, t3, t4, t5, t6⟩ <;> rw [t5, t6] at h1 h2 <;> rw [t1, t2] <;> omega
  | @add d names funs a b h0 _ _ ia ib =>
    intro h5 q ν M hM
    have h1 := ia (by omega) q ν M hM
    have h2 := ib (by omega) q ν M hM
    simp only [Part.cst]
    rcases c_tab h0 h5 with ⟨t1, t2, t3, t4, t5, t6⟩ | ⟨t1, t2, t3, t4, t5, t6⟩ | ⟨t1, t2, t3, t4, t5, t6⟩ | ⟨t1, t2, t3, t4, t5, t6⟩ | ⟨t1, t2, t3, t4, t5, t6⟩ <;> rw [t5, t6] at h1 h2 <;> rw [t1, t2] <;> omega
  | @less d names funs a b h0 _ _ ia ib =>
    intro h5 q ν M hM
    have h1 := ia (by omega) q ν M hM
    have h2 := ib (by omega) q ν M hM
    simp only [Part.cst]
    rcases c_tab h0 h5 with ⟨t1, t2, t3, t4, t5, t6⟩ | ⟨t1, t2, t3, t4, t5, t6⟩ | ⟨t1, t2, t3, t4, t5, t6⟩ | ⟨t1, t2, t3, t4, t5, t6⟩ | ⟨t1, t2, t3, t4, t5, t6⟩ <;> rw [t5, t6] at h1 h2 <;> rw [t1, t2] <;> omega
theorem cA_le {d : Int} (h : d ≤ 5) : kA d ≤ 38593 := by
  by_cases h0 : 0 < d
  · rcases c_tab h0 h with t | t | t | t | t <;> omega
  · unfold kA; rw [if_pos (by omega)]; omega
theorem Drawn.dpt {d : Int} {ins : List Str} {p : Part} (h : Drawn d ins p) (h5 : d ≤ 5) : p.dpt (fun _ => 0) ≤ 127 ∧ p.cst (fun _ => 0) ≤ 77186 := by
  obtain ⟨ws, k, W, hk, hi, hg⟩ := h.ex
  have g5 : gA d.toNat ≤ 126 := Nat.le_trans (gA_mono (n := 5) (by omega)) (by decide)
  have cb := cA_le h5
  have dp : ∀ {q : Part}, Gen ws d ins [] q → q.dpt (fun _ => 0) ≤ 126 ∧ q.cst (fun _ => 0) ≤ 38593 := fun {q} g => by
    have h1 := gen_dpt g (fun _ => 0) 0 fun _ => Nat.le_refl _
    have h2 := gen_cst g h5 (fun e he => by simp at he) (fun _ => 0) 0 fun _ => Nat.le_refl _
    omega
  rcases hg with g | ⟨a, b, rfl, ga, gb⟩ | rfl
  · have := dp g; omega
  · have h1 := dp ga
    have h2 := dp gb
    simp only [Part.dpt, Part.cst]; omega
  · simp [Part.dpt, Part.cst]
end BN
namespace BN
open PySem L2
/-! ### all ways of calling: how many readings and calls -/
mutual
def Part.vst : Part → (Str → Nat) → Nat
  | .num _, _ => 0
  | .name _, _ => 1
  | .add a b, d => a.vst d + b.vst d
  | .less a b, d => a.vst d + b.vst d
  | .ite c a b, d => c.vst d + (a.vst d + b.vst d)
  | .say a, d => a.vst d
  | .lt _ a b, d => a.vst d + b.vst d
  | .fn f _ b r, d => r.vst (putD d f (b.vst d))
  | .call f as, d => as.vst d + d f + 1
def Parts.vst : Parts → (Str → Nat) → Nat
  | .nil, _ => 0
  | .cons p r, d => p.vst d + r.vst d
end
def kVs (d : Int) : Nat := if d ≤ 0 then 1 else if d = 1 then 8 else if d = 2 then 30 else if d = 3 then 126 else if d = 4 then 1014 else 44622
def lVs (d : Int) : Nat := if d ≤ 0 then 0 else if d = 1 then 1 else if d = 2 then 2 else if d = 3 then 6 else if d = 4 then 42 else 1806
theorem v_tab {d : Int} (h0 : 0 < d) (h5 : d ≤ 5) : (kVs d = 8 ∧ lVs d = 1 ∧ kVs (d - 1) = 1 ∧ lVs (d - 1) = 0 ∧ kVs (d - 2) = 1 ∧ lVs (d - 2) = 0) ∨ (kVs d = 30 ∧ lVs d = 2 ∧ kVs (d - 1) = 8 ∧ lVs (d - 1) = 1 ∧ kVs (d - 2) = 1 ∧ lVs (d - 2) = 0) ∨
    (kVs d = 126 ∧ lVs d = 6 ∧ kVs (d - 1) = 30 ∧ lVs (d - 1) = 2 ∧ kVs (d - 2) = 8 ∧ lVs (d - 2) = 1) ∨ (kVs d = 1014 ∧ lVs d = 42 ∧ kVs (d - 1) = 126 ∧ lVs (d - 1) = 6 ∧ kVs (d - 2) = 30 ∧ lVs (d - 2) = 2) ∨
    (kVs d = 44622 ∧ lVs d = 1806 ∧ kVs (d - 1) = 1014 ∧ lVs (d - 1) = 42 ∧ kVs (d - 2) = 126 ∧ lVs (d - 2) = 6) := by
  have : d = 1 ∨ d = 2 ∨ d = 3 ∨ d = 4 ∨ d = 5 := by omega
  rcases this with rfl | rfl | rfl | rfl | rfl
  · exact .inl (by decide)
  · exact .inr (.inl (by decide))
  · exact .inr (.inr (.inl (by decide)))
  · exact .inr (.inr (.inr (.inl (by decide))))
  · exact .inr (.inr (.inr (.inr (by decide))))
theorem leaf_vst {names : List Str} {p : Part} (h : Leaf names p) (d : Str → Nat) : p.vst d ≤ 1 := by cases h <;> simp [Part.vst]
theorem parts_vst {d : Str → Nat} {n : Nat} : ∀ {l : List Part}, (∀ a ∈ l, a.vst d ≤ n) → (Parts.of l).vst d ≤ l.length * n
  | [], _ => by simp [Parts.of, Parts.vst]
  | p :: r, h => by
    have h1 := h p (by simp)
    have h2 := parts_vst (d := d) (n := n) (l := r) fun a ha => h a (List.mem_cons_of_mem _ ha)
    simp only [Parts.of, Parts.vst, List.length_cons, Nat.succ_mul]; omega
theorem parts_vst4 {d : Str → Nat} {n : Nat} {l : List Part} (h4 : l.length ≤ 4) (h : ∀ a ∈ l, a.vst d ≤ n) : (Parts.of l).vst d ≤ 4 * n :=
  Nat.le_trans (parts_vst h) (Nat.mul_le_mul_right n h4)
theorem gen_vst {ws : List Str} {d names funs p} (h : Gen ws d names funs p) : d ≤ 5 → (∀ e ∈ funs, e.2 ≤ 4) → ∀ (ν : Str → Nat) (M : Nat), (∀ f, ν f ≤ M) → p.vst ν ≤ kVs d + lVs d * M := by
  have kn : ∀ {funs : List (Str × Nat)} {f : Str} {n : Nat}, n ≤ 4 → (∀ e ∈ funs, e.2 ≤ 4) → ∀ e ∈ known funs f n, e.2 ≤ 4 := fun h0 h e he => by
    rcases List.mem_append.mp he with q | q
    · exact h e (List.mem_filter.mp q).1
    · rw [List.mem_singleton.mp q]; exact h0
  induction h with
  | @leaf d names funs p h =>
    intro h5 q ν M hM
    have h1 := leaf_vst h ν
    have : 1 ≤ kVs d := by
      by_cases h0 : 0 < d
      · rcases v_tab h0 h5 with t | t | t | t | t <;> omega
      · unfold kVs; rw [if_pos (by omega)]; omega
    omega
  | @fn d names funs f ps b r h0 _ _ _ hl _ _ ib ir =>
    intro h5 q ν M hM
    have h1 := ib (by omega) q ν M hM
    have h2 := ir (by omega) (kn hl q) (putD ν f (b.vst ν))
    simp only [Part.vst]
    rcases v_tab h0 h5 with ⟨t1, t2, t3, t4, t5, t6⟩ | ⟨t1, t2, t3, t4, t5, t6⟩ | ⟨t1, t2, t3, t4, t5, t6⟩ | ⟨t1, t2, t3, t4, t5, t6⟩ | ⟨t1, t2, t3, t4, t5, t6⟩ <;> rw [t3, t4] at h1 h2 <;> rw [t1, t2]
    · have h3 := h2 (1 + M) (putD_le' hM (by omega) (by omega) f); omega
    · have h3 := h2 (8 + 1 * M) (putD_le' hM (by omega) (by omega) f); omega
    · have h3 := h2 (30 + 2 * M) (putD_le' hM (by omega) (by omega) f); omega
    · have h3 := h2 (126 + 6 * M) (putD_le' hM (by omega) (by omega) f); omega
    · have h3 := h2 (1014 + 42 * M) (putD_le' hM (by omega) (by omega) f); omega
  | @fnc d names funs f ps b r w l as h0 _ _ _ hl _ _ _ hle has hlen ib ir =>
    intro h5 q ν M hM
    have h1 := ib (by omega) q ν M hM
    have h2 := ir (by omega) (kn hl q) (putD ν f (b.vst ν))
    have h6 := leaf_vst hle (putD ν f (b.vst ν))
    have h7 := parts_vst4 (d := putD ν f (b.vst ν)) (n := 1) (l := as) (by omega) fun a ha => leaf_vst (has a ha) _
    have h8 : putD ν f (b.vst ν) f = b.vst ν := by simp [putD]
    simp only [Part.vst]
    rcases v_tab h0 h5 with ⟨t1, t2, t3, t4, t5, t6⟩ | ⟨t1, t2, t3, t4, t5, t6⟩ | ⟨t1, t2, t3, t4, t5, t6⟩ | ⟨t1, t2, t3, t4, t5, t6⟩ | ⟨t1, t2, t3, t4, t5, t6⟩ <;> rw [t3, t4] at h1 h2 <;> rw [t1, t2]
    · have h3 := h2 (1 + M) (putD_le' hM (by omega) (by omega) f); omega
    · have h3 := h2 (8 + 1 * M) (putD_le' hM (by omega) (by omega) f); omega
    · have h3 := h2 (30 + 2 * M) (putD_le' hM (by omega) (by omega) f); omega
    · have h3 := h2 (126 + 6 * M) (putD_le' hM (by omega) (by omega) f); omega
    · have h3 := h2 (1014 + 42 * M) (putD_le' hM (by omega) (by omega) f); omega
  | @lt d names funs x a b h0 _ _ _ ia ib =>
    intro h5 q ν M hM
    have h1 := ia (by omega) q ν M hM
    have h2 := ib (by omega) q ν M hM
    simp only [Part.vst]
    rcases v_tab h0 h5 with ⟨t1, t2, t3, t4, t5, t6⟩ | ⟨t1, t2, t3, t4, t5, t6⟩ | ⟨t1, t2, t3, t4, t5, t6⟩ | ⟨t1, t2, t3, t4, t5, t6⟩ | ⟨t1, t2, t3, t4, t5, t6⟩ <;> rw [t5, t6] at h1 <;> rw [t3, t4] at h2 <;> rw [t1, t2] <;> omega
  | @call d names funs f as h0 hm _ ih =>
    intro h5 q ν M hM
    have h4 : as.length ≤ 4 := q _ hm
    have h1 := parts_vst4 (d := ν) h4 fun a ha => ih a ha (by omega) q ν M hM
    have h2 := hM f
    simp only [Part.vst]
    rcases v_tab h0 h5 with ⟨t1, t2, t3, t4, t5, t6⟩ | ⟨t1, t2, t3, t4, t5, t6⟩ | ⟨t1, t2, t3, t4, t5, t6⟩ | ⟨t1, t2, t3, t4, t5, t6⟩ | ⟨t1, t2, t3, t4, t5, t6⟩ <;> rw [t5, t6] at h1 <;> rw [t1, t2] <;> omega
  | @say d names funs a h0 _ ih =>
    intro h5 q ν M hM
    have h1 := ih (by omega) q ν M hM
    simp only [Part.vst]
    rcases v_tab h0 h5 with ⟨t1, t2, t3, t4, t5, t6⟩ | ⟨t1, t2, t3, t4, t5, t6⟩ | ⟨t1, t2, t3, t4, t5, t6⟩ | ⟨t1, t2, t3, t4, t5, t6⟩ | ⟨t1, t2, t3, t4, t5, t6⟩ <;> rw [t3, t4] at h1 <;> rw [t1, t2] <;> omega
  | @ite d names funs c a l h0 _ _ hl ic ia =>
    intro h5 q ν M hM
    have h1 := ic (by omega) q ν M hM
    have h2 := ia (by omega) q ν M hM
    have h3 := leaf_vst hl ν
    simp only [Part.vst]
    rcases v_tab h0 h5 with ⟨t1, t2, t3, t4, t5, t6⟩ | ⟨t1, t2, t3, t4, t5, t6⟩ | ⟨t1, t2, t3, t4, t5, t6⟩ | ⟨t1, t2, t3, t4, t5, t6⟩ | ⟨t1, t2, t3, t4, t5, t6⟩ <;> rw [t5, t6] at h1 h2 <;> rw [t1, t2] <;> omega
  | @add d names funs a b h0 _ _ ia ib =>
    intro h5 q ν M hM
    have h1 := ia (by omega) q ν M hM
    have h2 := ib (by omega) q ν M hM
    simp only [Part.vst]
    rcases v_tab h0 h5 with ⟨t1, t2, t3, t4, t5, t6⟩ | ⟨t1, t2, t3, t4, t5, t6⟩ | ⟨t1, t2, t3, t4, t5, t6⟩ | ⟨t1, t2, t3, t4, t5, t6⟩ | ⟨t1, t2, t3, t4, t5, t6⟩ <;> rw [t5, t6] at h1 h2 <;> rw [t1, t2] <;> omega
  | @less d names funs a b h0 _ _ ia ib =>
    intro h5 q ν M hM
    have h1 := ia (by omega) q ν M hM
    have h2 := ib (by omega) q ν M hM
    simp only [Part.vst]
    rcases v_tab h0 h5 with ⟨t1, t2, t3, t4, t5, t6⟩ | ⟨t1, t2, t3, t4, t5, t6⟩ | ⟨t1, t2, t3, t4, t5, t6⟩ | ⟨t1, t2, t3, t4, t5, t6⟩ | ⟨t1, t2, t3, t4, t5, t6⟩ <;> rw [t5, t6] at h1 h2 <;> rw [t1, t2] <;> omega
theorem vA_le {d : Int} (h : d ≤ 5) : kVs d ≤ 44622 := by
  by_cases h0 : 0 < d
  · rcases v_tab h0 h with t | t | t | t | t <;> omega
  · unfold kVs; rw [if_pos (by omega)]; omega
theorem Drawn.vst {d : Int} {ins : List Str} {p : Part} (h : Drawn d ins p) (h5 : d ≤ 5) : p.vst (fun _ => 0) ≤ 89244 := by
  obtain ⟨ws, k, W, hk, hi, hg⟩ := h.ex
  have cb := vA_le h5
  have dp : ∀ {q : Part}, Gen ws d ins [] q → q.vst (fun _ => 0) ≤ 44622 := fun {q} g => by
    have h2 := gen_vst g h5 (fun e he => by simp at he) (fun _ => 0) 0 fun _ => Nat.le_refl _
    omega
  rcases hg with g | ⟨a, b, rfl, ga, gb⟩ | rfl
  · have := dp g; omega
  · have h1 := dp ga
    have h2 := dp gb
    simp only [Part.vst]; omega
  · simp [Part.vst]
end BN
/-! Sets of keys of any kind (KeyKind), with the order's facts, so that they can be walked: SG. -/
namespace BNS
open PySem PySem.Spec PyProof.Rows L2
section
variable {P : Program} {w : World} {κ : Type} [DecidableEq κ] {knd : KeyKind P w κ}
/-- the rows of a set, by their keys -/
abbrev RowsK (knd : KeyKind P w κ) : List κ → List (Int × Value) → Prop := Paired fun k e => knd.is k e.2 = true ∧ e.1 = knd.hash k ∧ e.2.scannable = true
theorem rows_elems : ∀ {L : List κ} {l : List (Int × Value)}, RowsK knd L l → ElemsOf knd l
  | _, _, .nil, e, he => by cases he
  | _, _, .cons r t, e, he => by
    rcases List.mem_cons.mp he with q | q
    · rw [q]; exact ⟨⟨_, r.1, r.2.1⟩, r.2.2⟩
    · exact rows_elems t e q
theorem rows_has {k : κ} : ∀ {L : List κ} {l : List (Int × Value)}, RowsK knd L l → (k ∈ L ↔ ∃ e ∈ l, knd.is k e.2 = true)
  | _, _, .nil => by simp
  | _, _, .cons (a := j) (b := e) r t => by
    have ih := rows_has (k := k) t
    rw [List.mem_cons, ih]
    constructor
    · rintro (q | ⟨x, hx, q⟩)
      · exact ⟨e, List.mem_cons_self .., by rw [q]; exact r.1⟩
      · exact ⟨x, List.mem_cons_of_mem _ hx, q⟩
    · rintro ⟨x, hx, q⟩
      rcases List.mem_cons.mp hx with z | z
      · rw [z] at q; exact .inl (knd.inj _ _ _ q r.1)
      · exact .inr ⟨x, z, q⟩
theorem rows_perm {l l' : List (Int × Value)} (p : l.Perm l') : ∀ {L : List κ}, RowsK knd L l → ∃ L' : List κ, RowsK knd L' l' ∧ L.Perm L' := by
  induction p with
  | nil => intro L h; cases h; exact ⟨[], .nil, .nil⟩
  | cons x _ ih =>
    intro L h
    cases h with
    | cons r t => obtain ⟨L', h1, h2⟩ := ih t; exact ⟨_ :: L', .cons r h1, h2.cons _⟩
  | swap x y l =>
    intro L h
    cases h with
    | cons r t => cases t with
      | cons r2 t2 => exact ⟨_, .cons r2 (.cons r t2), .swap _ _ _⟩
  | trans _ _ ih1 ih2 =>
    intro L h
    obtain ⟨L1, a1, a2⟩ := ih1 h
    obtain ⟨L2, b1, b2⟩ := ih2 a1
    exact ⟨L2, b1, a2.trans b2⟩
def SG (knd : KeyKind P w κ) (h : Heap) (a : Addr) (L : List κ) : Prop :=
  ∃ o es ep t, h.get? a = some o ∧ o.ExactSet ∧ o.data = .set es ep t ∧ RowsK knd L es.toList ∧ L.Nodup ∧ L.length < scanBound ∧ t.fits es.size = true ∧ Ris t.place.toList ∧ (w.params.followText "set-order" = true ∨ t.led = true)
theorem rows_len {L : List κ} {es : Array (Int × Value)} (h : RowsK knd L es.toList) : es.size = L.length := by
  rw [← Array.length_toList]; exact (Paired.length h).symm
theorem SG.at {h h' : Heap} {a : Addr} {L : List κ} (R : SG knd h a L) (k : ∀ o, h.get? a = some o → h'.get? a = some o) : SG knd h' a L := by
  obtain ⟨o, es, ep, t, ho, r⟩ := R
  exact ⟨o, es, ep, t, k o ho, r⟩
theorem SG.setOf {h : Heap} {a : Addr} {L : List κ} (R : SG knd h a L) : h.SetOf knd a (fun k => decide (k ∈ L)) L.length := by
  obtain ⟨o, es, ep, t, ho, hx, hd, hr, nd, hb, hf, _⟩ := R
  exact ⟨o, es, ep, t, ho, hx, hd, rows_elems hr, fun k => by rw [decide_eq_true_eq]; exact rows_has hr, by rw [rows_len hr]; exact hb, hf, rows_len hr⟩
variable {A : Around} {E : Value → Shared → Prop} {s : Shared} {a : Addr} {L : List κ}
/-- the store behind a new row -/
theorem put_tail {g : Bool → Sem Unit} (hg : ∀ (b : Bool) (s₁ : Shared) (Q' : Unit → Shared → Prop), Q' () s₁ → wpAny (model P w) A (g b) Q' E s₁) {o : Obj} {es : Array (Int × Value)} {ep : Nat} {t : SetTable} (ho : s.heap.get? a = some o) (hex : o.ExactSet) (hd : o.data = .set es ep t)
    {es1 : Array (Int × Value)} {t2 : SetTable} {L1 : List κ} (r1 : RowsK knd L1 es1.toList) (nd1 : L1.Nodup) (hb1 : L1.length < scanBound) (hf2 : t2.fits es1.size = true) (hr : Ris t2.place.toList) (hl : w.params.followText "set-order" = true ∨ t2.led = true) {wasDummy : Bool} {R : Option Bool → Shared → Prop}
    (hR : ∀ (h' : Heap) (L' : List κ), Heap.SameBut a s.heap h' → SG knd h' a L' → L1.Perm L' → R (some true) { s with heap := h' }) :
    wpAny (model P w) A (do storeSet a es1 t2
                            if (!wasDummy && t2.tooFull) = true then do
                              g (relayAll t2 es1 (SetTable.grown es1.size)).2.2
                              storeSet a (relayAll t2 es1 (SetTable.grown es1.size)).1 (relayAll t2 es1 (SetTable.grown es1.size)).2.1
                              pure (some true)
                            else pure (some true)) R E s := by
  have hs1 : es1.size < scanBound := by rw [rows_len r1]; exact hb1
  refine wpAny_bind (wpAny_storeSet_of ho hd ?_ (fits_of_scanBound hs1))
  have ho1 := store_at (es' := es1) (t' := t2) ho hd
  have sb1 := Heap.SameBut.update s.heap a (Obj.putSet es1 t2)
  split
  · have pm := relayAll_perm t2 es1 (SetTable.grown es1.size); have hf3 := relayAll_fits t2 es1 (SetTable.grown es1.size)
    have hr3 := relayAll_ris t2 es1 (SetTable.grown es1.size); have hl3 := relayAll_led t2 es1 (SetTable.grown es1.size)
    generalize relayAll t2 es1 (SetTable.grown es1.size) = Z at pm hf3 hr3 hl3 ⊢
    obtain ⟨es2, t3, gave⟩ := Z; dsimp only at pm hf3 hr3 hl3 ⊢
    obtain ⟨L2, r2, p2⟩ := rows_perm pm.symm r1
    have hb2 : L2.length < scanBound := by rw [← p2.length_eq]; exact hb1
    refine wpAny_bind (hg _ _ _ (wpAny_bind (wpAny_storeSet_of ho1 rfl ?_ (fits_of_scanBound (by rw [rows_len r2]; exact hb2)))))
    exact wpAny_pure (hR _ L2 (sb1.trans (Heap.SameBut.update _ a _)) ⟨_, es2, _, t3, store_at (es' := es2) (t' := t3) ho1 rfl, hex, rfl, r2, p2.nodup_iff.mp nd1, hb2, hf3, hr3, hl.imp id fun z => by rw [hl3]; exact z⟩ p2)
  · exact wpAny_pure (hR _ L1 sb1 ⟨_, es1, _, t2, ho1, hex, rfl, r1, nd1, hb1, hf2, hr, hl⟩ (.refl _))
theorem add_hashed {k : κ} {x : Value} {Q : Bool → Shared → Prop} (hkey : knd.is k x = true) (hsc : x.scannable = true) (R : SG knd s.heap a L) (room : L.length + 1 < scanBound)
    (hQ : ∀ (h' : Heap) (L' : List κ) (b : Bool), Heap.SameBut a s.heap h' → SG knd h' a L' → (if k ∈ L then L else k :: L).Perm L' → Q b { s with heap := h' }) :
    wpAny (model P w) A (setAddHashed a x (knd.hash k)) Q E s := by
  obtain ⟨o, es, ep, t, ho, hex, hd, hrow, nd, hb, hf, hr, hl⟩ := R
  have hel := rows_elems hrow
  have hsz := rows_len hrow
  have hb0 : es.size < scanBound := by rw [hsz]; exact hb
  unfold setAddHashed setAddHashedIn; refine wpAny_holding (wpAny_bind (wpAny_setState_of ho hd hf ?_)); dsimp only
  rw [byScan_of hsc hb0 hel]; simp only [↓reduceIte]
  unfold setAddByScan; refine wpAny_bind (wpAny_bind (wpAny_rule (wpAny_bind (wpAny_setScan_of hkey ho hd hf hel ?_))))
  cases hfi : List.findIdx? (fun e => knd.is k e.2) es.toList with
  | some j =>
    dsimp only
    obtain ⟨hj, pj, _⟩ := List.findIdx?_eq_some_iff_getElem.mp hfi
    have hk : k ∈ L := (rows_has hrow).mpr ⟨es.toList[j], List.getElem_mem hj, pj⟩
    exact wpAny_pure (wpAny_pure (hQ s.heap L _ (Heap.SameBut.refl a s.heap) ⟨o, es, ep, t, ho, hex, hd, hrow, nd, hb, hf, hr, hl⟩ (by rw [if_pos hk])))
  | none =>
    dsimp only
    have hk : k ∉ L := fun z => by
      obtain ⟨e, he, q⟩ := (rows_has hrow).mp z
      have c := List.findIdx?_eq_none_iff.mp hfi e he
      rw [q] at c; cases c
    have pm := layNew_perm t es (knd.hash k) x; have hf1 := layNew_fits t es (knd.hash k) x
    have hr1 := layNew_ris t es (knd.hash k) x hr; have hl1 := layNew_led t es (knd.hash k) x
    generalize layNew t es (knd.hash k) x = Z at pm hf1 hr1 hl1 ⊢
    obtain ⟨es1, t1, wasDummy, gave⟩ := Z; dsimp only at pm hf1 hr1 hl1 ⊢
    rw [Array.toList_push] at pm
    have pc : ((knd.hash k, x) :: es.toList).Perm es1.toList := (pm.trans (List.perm_append_singleton _ _)).symm
    obtain ⟨L1, r1, p1⟩ := rows_perm pc (.cons ⟨hkey, rfl, hsc⟩ hrow : RowsK knd (k :: L) ((knd.hash k, x) :: es.toList))
    have nd1 : L1.Nodup := p1.nodup_iff.mp (List.nodup_cons.mpr ⟨hk, nd⟩)
    have hb1 : L1.length < scanBound := by rw [← p1.length_eq]; exact room
    have hled : w.params.followText "set-order" = true ∨ t1.led = true := hl.imp id fun z => by rw [hl1]; exact z
    have fin : ∀ (b : Bool) (h' : Heap) (L' : List κ), Heap.SameBut a s.heap h' → SG knd h' a L' → L1.Perm L' → Q b { s with heap := h' } := fun b h' L' sb r p => hQ h' L' b sb r (by rw [if_neg hk]; exact p1.trans p)
    have hg2 : ∀ (b : Bool) (s₁ : Shared) (Q' : Unit → Shared → Prop), Q' () s₁ → wpAny (model P w) A (match b with | true => rule "set.scan.the-table-gave-way" | false => pure ()) Q' E s₁ := fun b s₁ Q' q => by
      cases b
      · exact wpAny_pure q
      · exact wpAny_rule q
    refine wpAny_bind (hg2 _ _ _ ?_)
    split
    · refine wpAny_bind ?_; rw [hashByValue_scannable 8 hsc]; refine wpAny_pure ?_
      refine put_tail (knd := knd) (fun b s₁ Q' q => by cases b <;> first | exact wpAny_pure q | exact wpAny_rule q) ho hex hd r1 nd1 hb1 ?_ ?_ ?_ ?_
      · first | (split <;> first | exact hf1 | exact SetTable.fits_plain_off hf1) | exact hf1
      · first | (split <;> exact hr1) | exact hr1
      · first | (split <;> exact hled) | exact hled
      · intro h' L' sb r p; dsimp only; exact wpAny_pure (fin _ h' L' sb r p)
    · refine wpAny_bind (wpAny_pure ?_); simp only [↓reduceIte]
      refine put_tail (knd := knd) (fun b s₁ Q' q => by cases b <;> first | exact wpAny_pure q | exact wpAny_rule q) ho hex hd r1 nd1 hb1 hf1 hr1 hled ?_
      intro h' L' sb r p; dsimp only; exact wpAny_pure (fin _ h' L' sb r p)
end
end BNS
namespace BNS
open PySem PySem.Spec PyProof.Rows L2
section
variable {P : Program} {w : World} {κ : Type} [DecidableEq κ] {knd : KeyKind P w κ}
theorem nodup_sub {α : Type} [DecidableEq α] : ∀ {L ks : List α}, L.Nodup → (∀ k ∈ L, k ∈ ks) → L.length ≤ ks.length
  | [], _, _, _ => Nat.zero_le _
  | a :: L, ks, nd, h => by
    obtain ⟨h1, h2⟩ := List.nodup_cons.mp nd
    have ha := h a (by simp)
    have := nodup_sub (L := L) (ks := ks.erase a) h2 fun k hk => (List.mem_erase_of_ne fun (z : k = a) => h1 (z ▸ hk)).mpr (h k (List.mem_cons_of_mem _ hk))
    rw [List.length_erase_of_mem ha] at this
    have := List.length_pos_of_mem ha
    rw [List.length_cons]; omega
def Few {α : Type} (ks : List α) : Prop := ∀ L : List α, L.Nodup → (∀ k ∈ L, k ∈ ks) → L.length ≤ 4000
theorem few_len {α : Type} [DecidableEq α] {ks : List α} (h : ks.length ≤ 4000) : Few ks := fun _ nd m => Nat.le_trans (nodup_sub nd m) h
theorem SG.nodup {h : Heap} {a : Addr} {L : List κ} (R : SG knd h a L) : L.Nodup := by
  obtain ⟨_, _, _, _, _, _, _, _, nd, _⟩ := R
  exact nd
/-- what a set of these keys holds -/
def Holds (knd : KeyKind P w κ) (h : Heap) (a : Addr) (ks : List κ) : Prop := ∃ L, SG knd h a L ∧ L.length ≤ ks.length ∧ ∀ k, k ∈ L ↔ k ∈ ks
theorem Holds.at {h h' : Heap} {a : Addr} {ks : List κ} (R : Holds knd h a ks) (k : ∀ o, h.get? a = some o → h'.get? a = some o) : Holds knd h' a ks := by
  obtain ⟨L, r, q⟩ := R
  exact ⟨L, r.at k, q⟩
section
variable {A : Around} {R : Result → Shared → Prop} {I S : Addr} {fp wr : List Addr} {G : Array GenState → Array GenState → Prop} {n : Nat} {Pv : Nat → Value → Prop} {St : Nat → Shared → Prop}
theorem upd_loop (W : WalksS P w A.in1 I fp wr G n Pv St) (hSf : S ∉ fp) (ks : List κ) (hlen : ks.length = n) (hn : Few ks) (hval : ∀ i v, Pv i v → ∃ k, ks[i]? = some k ∧ knd.is k v = true ∧ v.scannable = true) :
    ∀ (m i : Nat) (s : Shared), i + m = n → St i s → Holds knd s.heap S (ks.take i) → (∀ s', Moved (S :: wr) G s s' → Holds knd s'.heap S ks → R (.ok (.ret .none)) s') →
      codeAny (model P w) A (.builtin "set.update.loop" ⟨[.ref S, .ref I], []⟩) R s
  | 0, i, s, hi, hst, hS, hR => by
    have hin : i = n := by omega
    subst hin
    refine codeAny_builtin F.entry_set_update_loop ?_; rw [Around.under_plainId F.plain_set_update_loop _]
    show wpAny _ A.in1 (pyNext (.ref I) >>= _) _ _ s; refine wpAny_bind (W.done s _ _ hst fun s' hm => ?_)
    refine wpAny_pure (hR s' (hm.mono fun b hb => List.mem_cons_of_mem _ hb) ?_)
    rw [← hlen, List.take_length] at hS
    exact hS.at fun o e => hm.heap S o (fun z => hSf (W.sub _ z)) e
  | m + 1, i, s, hi, hst, hS, hR => by
    have hlt : i < n := by omega
    refine codeAny_builtin F.entry_set_update_loop ?_; rw [Around.under_plainId F.plain_set_update_loop _]
    show wpAny _ A.in1 (pyNext (.ref I) >>= _) _ _ s; refine wpAny_bind (W.item i s _ _ hlt hst fun v s' hP hst' hm => ?_)
    obtain ⟨k, hk, hkey, hsc⟩ := hval i v hP
    obtain ⟨L, hL, hl, hmem⟩ := hS.at fun o e => hm.heap S o (fun z => hSf (W.sub _ z)) e
    rw [List.length_take] at hl
    show wpAny _ A.in1 (holding [v] (setAdd S v) >>= _) _ _ s'; refine wpAny_bind (wpAny_holding ?_)
    unfold setAdd; refine wpAny_holding (wpAny_bind (knd.pyHash hkey ?_))
    refine add_hashed (s := { s' with toks := s'.toks + 1 }) hkey hsc hL (by have := hn L hL.nodup fun k hk => List.mem_of_mem_take ((hmem k).mp hk); unfold scanBound; omega) fun h' L' b hsb hL' pm => ?_
    have hmv : Moved (S :: wr) G s { s' with heap := h', toks := s'.toks + 1 } := (hm.mono fun b hb => List.mem_cons_of_mem _ hb).then_heap (Nat.le_succ _) fun b o hb e => by
      rw [hsb.2 b (fun h => hb (by rw [h]; exact List.mem_cons_self))]; exact e
    refine wpAny_pure ⟨plainId_quiet F.plain_set_update_loop _, upd_loop W hSf ks hlen hn hval m (i + 1) _ (by omega) (W.frame _ s' _ _ hst' (Nat.le_succ _) fun b hb o e => ?_) ⟨L', hL', ?_, fun j => ?_⟩ fun s'' hm'' hS'' => hR s'' (Moved.trans W.gtrans hmv hm'') hS''⟩
    · rw [hsb.2 b (fun h => hSf (by rw [← h]; exact hb))]; exact e
    · rw [← pm.length_eq, List.length_take]
      split
      · omega
      · rw [List.length_cons]; omega
    · rw [← pm.mem_iff, BN.take_more hk, List.mem_append, List.mem_singleton]
      by_cases e : k ∈ L
      · rw [if_pos e, hmem]
        exact ⟨.inl, fun z => z.elim id fun q => by rw [q]; exact (hmem k).mp e⟩
      · rw [if_neg e, List.mem_cons, hmem]; exact Or.comm
end
abbrev set0 (w : World) : Obj := { cls := .type "set", dict := none, data := .set #[] 0 (.fresh 0 0 (!w.params.followText "set-order")) }
theorem holds0 {h : Heap} {a : Addr} (e : h.get? a = some (set0 w)) : Holds knd h a [] :=
  ⟨[], ⟨_, #[], 0, _, e, ⟨rfl, rfl, rfl⟩, rfl, .nil, List.nodup_nil, (by show 0 < scanBound; decide), by rfl, List.Pairwise.nil, by
    show _ ∨ (!w.params.followText "set-order") = true
    cases w.params.followText "set-order"
    · exact .inr rfl
    · exact .inl rfl⟩, Nat.le_refl _, fun _ => Iff.rfl⟩
variable {A : Around} {E : Value → Shared → Prop} {s : Shared}
/-- set(x), when its __init__ is run -/
theorem call_set_raw {x : Value} {Q : Value → Shared → Prop} (hinit : codeAny (model P w) A.in1 (.call (.builtin "set.__init__") ⟨[.ref s.heap.objs.size, x], []⟩) (wants (fun r s₂ => r = .none ∧ Q (.ref s.heap.objs.size) s₂) E) { s with heap := s.heap.push (set0 w) }) :
    wpAny (model P w) A (call (.type "set") [x]) Q E s := by
  obtain ⟨c, tl, hmro⟩ := PySem.F.called_set.mro; have hmade := PySem.F.called_set.made; have hsub := PySem.F.called_set.sub
  refine wpAny_call (codeAny_of_tree ?_); show wpAny _ _ (callAny (.type "set") _) _ _ _
  refine wpAny_pure ⟨Code.quiet_builtin _ (by decide +kernel), codeAny_builtin PySem.F.entry_type_call ?_⟩; rw [Around.under_plain (weight_type_call_type "set" [x] []) rfl]
  have h1 := PySem.F.called_set.notType; have h2 := PySem.F.called_set.canCreate; have hct := PySem.F.typeCall_set_1 x
  repeat (any_goals (first | assumption | wp_step))
  refine codeAny_mono (code_set_led1 x (E := E) (Q₁ := fun obj s₁ => obj = .ref s.heap.objs.size ∧ s₁ = { s with heap := s.heap.push (set0 w) }) ⟨rfl, rfl⟩) fun r s₁ hr => ?_
  cases r with
  | error e => exact hr
  | ok fl => cases fl with
    | ret obj =>
      obtain ⟨rfl, rfl⟩ := hr
      have hS : (s.heap.push (set0 w)).get? s.heap.objs.size = some (set0 w) := Heap.get?_push_size _ rfl
      have hT : Shared.TypeIs { s with heap := s.heap.push (set0 w) } (.ref s.heap.objs.size) "set" := ⟨_, hS, rfl⟩
      have hli := PySem.F.called_set.init.lookup; have hbi := PySem.F.called_set.init.bind (.ref s.heap.objs.size)
      clear h1 h2 hct hmro hmade hS
      repeat (any_goals (first | assumption | wp_step))
      all_goals
        refine codeAny_mono hinit fun r₂ s₂ hr₂ => ?_
        clear hinit hli hbi hT
        cases r₂ with
        | error e => exact hr₂
        | ok fl₂ => cases fl₂ with
          | ret r =>
            obtain ⟨rfl, hq⟩ := hr₂
            refine wpAny_pure ?_
            first | exact wpAny_pure hq | exact wpAny_pure ⟨_, rfl, hq⟩ | (repeat (any_goals (first | assumption | wp_step)))
          | _ => exact hr₂.elim
    | _ => exact hr.elim
theorem set_end {ks : List κ} {it : Obj} {s' : Shared} (hm : Moved [s.heap.objs.size, (s.heap.push (set0 w)).objs.size] (fun a b => b = a) { s with heap := (s.heap.push (set0 w)).push it } s') (hS' : Holds knd s'.heap s.heap.objs.size ks) :
    ∃ h' tk, s' = { s with heap := h', toks := tk } ∧ Holds knd h' s.heap.objs.size ks ∧ (∀ b o, s.heap.get? b = some o → h'.get? b = some o) := by
  obtain ⟨h', g', d', tk', os'⟩ := s'
  have eg : g' = s.gens := hm.gens
  have ed : d' = s.drawn := hm.drawn
  have eo : os' = s.os := hm.os
  subst eg ed eo
  refine ⟨h', tk', rfl, hS', fun b o e => hm.heap b o ?_ (Heap.get?_push_of_some _ (Heap.get?_push_of_some _ e))⟩
  have hb := Heap.lt_size e
  rw [Heap.size_push]
  simp only [List.mem_cons, List.not_mem_nil, or_false, not_or]
  exact ⟨Nat.ne_of_lt hb, Nat.ne_of_lt (Nat.lt_succ_of_lt hb)⟩
section
variable {l : Addr} {items : Array Value} {ks : List κ}
abbrev SetEnd (knd : KeyKind P w κ) (s : Shared) (ks : List κ) (s₂ : Shared) : Prop := ∃ h' tk, s₂ = { s with heap := h', toks := tk } ∧ Holds knd h' s.heap.objs.size ks ∧ (∀ b o, s.heap.get? b = some o → h'.get? b = some o)
theorem init_list (hh : A.handled = none) (hl : s.heap.IsList l items) (hlen : ks.length = items.size) (hn : Few ks) (hval : ∀ (i : Nat) (v : Value), items[i]? = some v → ∃ k, ks[i]? = some k ∧ knd.is k v = true ∧ v.scannable = true) :
    codeAny (model P w) A.in1 (.call (.builtin "set.__init__") ⟨[.ref s.heap.objs.size, .ref l], []⟩) (wants (fun r s₂ => r = .none ∧ SetEnd knd s ks s₂) E) { s with heap := s.heap.push (set0 w) } := by
  have hS : (s.heap.push (set0 w)).get? s.heap.objs.size = some (set0 w) := Heap.get?_push_size _ rfl
  refine codeAny_call_builtin PySem.F.called_set.init.plain PySem.F.entry_set_init (check_set_init_1 ⟨_, hS, rfl⟩ ?_)
  obtain ⟨⟨oc, od, odt, osl⟩, hol, hcl, nl, hdl⟩ := hl
  simp only at hcl hdl; subst hcl hdl
  have hol' : (s.heap.push (set0 w)).get? l = some { cls := .type "list", dict := od, data := .seq items nl, slots := osl } := Heap.get?_push_of_some _ hol
  have hl1 : (s.heap.push (set0 w)).IsList l items := ⟨_, hol', rfl, nl, rfl⟩
  have hlS := Heap.lt_size hol
  have hh3 : A.in1.in1.in1.handled = none := by simp [hh]
  have hneI : l ≠ (s.heap.push (set0 w)).objs.size := by rw [Heap.size_push]; exact Nat.ne_of_lt (Nat.lt_succ_of_lt hlS)
  have fin := upd_loop (knd := knd) (R := fun r s' => r = .ok (.ret .none) ∧ SetEnd knd s ks s') ((Walks.list (prog := P) (w := w) hh3 _ l hneI items).toS) (S := s.heap.objs.size) (by
    rw [Heap.size_push]; simp only [List.mem_cons, List.not_mem_nil, or_false, not_or]
    exact ⟨Nat.ne_of_lt (Nat.lt_succ_self _), Nat.ne_of_gt hlS⟩) ks hlen hn hval items.size 0 { s with heap := (s.heap.push (set0 w)).push { cls := .type "list_iterator", data := .fields #[.ref l, .int 0 0] } } (by omega) ⟨⟨_, Heap.get?_push_size _ rfl, rfl, rfl⟩, (hl1.push _)⟩ (holds0 (Heap.get?_push_of_some _ hS)) fun s' hm hS' => ⟨rfl, set_end hm hS'⟩
  have q1 := PySem.F.sub_list_set; have q2 := PySem.F.sub_list_frozenset; have q3 : (Value.type "list" == Value.type "dict") = false := by decide
  clear hval hlen hn hS hlS hol
  unfold Builtin.«set.__init__» noKeywords Builtin.Frozenset.updateFrom; generalize hPI : pyIter = PI; wp_walk; subst hPI
  all_goals
    refine wpAny_pyIter_list hl1 (wpAny_bind (wpAny_runValue (codeAny_mono fin fun r s' hr => ?_)))
    obtain ⟨rfl, q⟩ := hr
    exact wpAny_pure (wpAny_pure ⟨rfl, q⟩)
theorem init_tuple (hh : A.handled = none) (hl : s.heap.IsTuple l items) (hlen : ks.length = items.size) (hn : Few ks) (hval : ∀ (i : Nat) (v : Value), items[i]? = some v → ∃ k, ks[i]? = some k ∧ knd.is k v = true ∧ v.scannable = true) :
    codeAny (model P w) A.in1 (.call (.builtin "set.__init__") ⟨[.ref s.heap.objs.size, .ref l], []⟩) (wants (fun r s₂ => r = .none ∧ SetEnd knd s ks s₂) E) { s with heap := s.heap.push (set0 w) } := by
  have hS : (s.heap.push (set0 w)).get? s.heap.objs.size = some (set0 w) := Heap.get?_push_size _ rfl
  refine codeAny_call_builtin PySem.F.called_set.init.plain PySem.F.entry_set_init (check_set_init_1 ⟨_, hS, rfl⟩ ?_)
  obtain ⟨⟨oc, od, odt, osl⟩, hol, hcl, nl, hdl⟩ := hl
  simp only at hcl hdl; subst hcl hdl
  have hol' : (s.heap.push (set0 w)).get? l = some { cls := .type "tuple", dict := od, data := .seq items nl, slots := osl } := Heap.get?_push_of_some _ hol
  have hl1 : (s.heap.push (set0 w)).IsTuple l items := ⟨_, hol', rfl, nl, rfl⟩
  have hlS := Heap.lt_size hol
  have hh3 : A.in1.in1.in1.handled = none := by simp [hh]
  have hneI : l ≠ (s.heap.push (set0 w)).objs.size := by rw [Heap.size_push]; exact Nat.ne_of_lt (Nat.lt_succ_of_lt hlS)
  have fin := upd_loop (knd := knd) (R := fun r s' => r = .ok (.ret .none) ∧ SetEnd knd s ks s') ((Walks.tuple (prog := P) (w := w) hh3 _ l hneI items).toS) (S := s.heap.objs.size) (by
    rw [Heap.size_push]; simp only [List.mem_cons, List.not_mem_nil, or_false, not_or]
    exact ⟨Nat.ne_of_lt (Nat.lt_succ_self _), Nat.ne_of_gt hlS⟩) ks hlen hn hval items.size 0 { s with heap := (s.heap.push (set0 w)).push { cls := .type "tuple_iterator", data := .fields #[.ref l, .int 0 0] } } (by omega) ⟨⟨_, Heap.get?_push_size _ rfl, rfl, rfl⟩, (hl1.push _)⟩ (holds0 (Heap.get?_push_of_some _ hS)) fun s' hm hS' => ⟨rfl, set_end hm hS'⟩
  have q1 := PySem.F.sub_tuple_set; have q2 := PySem.F.sub_tuple_frozenset; have q3 : (Value.type "tuple" == Value.type "dict") = false := by decide
  clear hval hlen hn hS hlS hol
  unfold Builtin.«set.__init__» noKeywords Builtin.Frozenset.updateFrom; generalize hPI : pyIter = PI; wp_walk; subst hPI
  all_goals
    refine wpAny_pyIter_tuple hl1 (wpAny_bind (wpAny_runValue (codeAny_mono fin fun r s' hr => ?_)))
    obtain ⟨rfl, q⟩ := hr
    exact wpAny_pure (wpAny_pure ⟨rfl, q⟩)
/-- set(xs), xs a list or a tuple of such keys -/
theorem call_setK (ks : List κ) {Q : Value → Shared → Prop} (hh : A.handled = none) (hl : s.heap.IsList l items ∨ s.heap.IsTuple l items) (hlen : ks.length = items.size) (hn : Few ks) (hval : ∀ (i : Nat) (v : Value), items[i]? = some v → ∃ k, ks[i]? = some k ∧ knd.is k v = true ∧ v.scannable = true)
    (h : ∀ (h' : Heap) (tk : Nat), Holds knd h' s.heap.objs.size ks → (∀ b o, s.heap.get? b = some o → h'.get? b = some o) → Q (.ref s.heap.objs.size) { s with heap := h', toks := tk }) : wpAny (model P w) A (call (.type "set") [.ref l]) Q E s := by
  have fin : ∀ r s₂, wants (fun r s₂ => r = .none ∧ SetEnd knd s ks s₂) E r s₂ → wants (fun r s₂ => r = .none ∧ Q (.ref s.heap.objs.size) s₂) E r s₂ := fun r s₂ hr => by
    cases r with
    | error e => exact hr
    | ok fl => cases fl with
      | ret v =>
        obtain ⟨e, h', tk, rfl, q1, q2⟩ := hr
        exact ⟨e, h h' tk q1 q2⟩
      | _ => exact hr
  rcases hl with hl | hl
  · exact call_set_raw (codeAny_mono (init_list hh hl hlen hn hval) fin)
  · exact call_set_raw (codeAny_mono (init_tuple hh hl hlen hn hval) fin)
end
end
end BNS
namespace BNS
open PySem PySem.Spec PyProof.Rows L2
/-! ### the rules: set(xs), len(set), sorted(set); texts and ints -/
def SetSO (P : Program) (w : World) (a : Addr) (xs : List Str) : HO := .ext fun h => Holds (PySem.strKind P w) h a xs
def SetIO (P : Program) (w : World) (a : Addr) (xs : List Int) : HO := .ext fun h => Holds (PySem.intKind P w) h a xs
def rSetS (K : PySem.W.Frag) (P : Program) (w : World) : List V → Hp → VK → Prop := fun vs H Q => ∃ (l : Addr) (xs : List Str), vs = [.ref l] ∧ (SqL K H l (xs.map V.str) ∨ SqT K H l (xs.map V.str)) ∧ xs.length ≤ 4000 ∧ ∀ p, H p = none → Q (.ref p) (upd H p (SetSO P w p xs))
def rSetI (K : PySem.W.Frag) (P : Program) (w : World) : List V → Hp → VK → Prop := fun vs H Q => ∃ (l : Addr) (xs : List Int), vs = [.ref l] ∧ (SqL K H l (xs.map V.int) ∨ SqT K H l (xs.map V.int)) ∧ xs.length ≤ 4000 ∧ ∀ p, H p = none → Q (.ref p) (upd H p (SetIO P w p xs))
def rLenSetS (P : Program) (w : World) : List V → Hp → VK → Prop := fun vs H Q => ∃ (p : Addr) (xs : List Str), vs = [.ref p] ∧ H p = some (SetSO P w p xs) ∧ ∀ L : List Str, L.Nodup → (∀ k, k ∈ L ↔ k ∈ xs) → Q (.int (L.length : Nat)) H
def rSortSetS (P : Program) (w : World) : List V → Hp → VK → Prop := fun vs H Q => ∃ (p : Addr) (xs : List Str), vs = [.ref p] ∧ H p = some (SetSO P w p xs) ∧ (∀ L : List Str, L.Nodup → (∀ k, k ∈ L ↔ k ∈ xs) → L.length < 64) ∧
  ∀ (ys : List Str) q, ys.Nodup → (∀ k, k ∈ ys ↔ k ∈ xs) → sortedS ys = true → H q = none → Q (.ref q) (upd H q (.lst (ys.map V.str)))
def rSortSetI (P : Program) (w : World) : List V → Hp → VK → Prop := fun vs H Q => ∃ (p : Addr) (xs : List Int), vs = [.ref p] ∧ H p = some (SetIO P w p xs) ∧ (∀ L : List Int, L.Nodup → (∀ k, k ∈ L ↔ k ∈ xs) → L.length < 64) ∧
  ∀ (ys : List Int) q, ys.Pairwise (· < ·) → (∀ k, k ∈ ys ↔ k ∈ xs) → H q = none → Q (.ref q) (upd H q (.lst (ys.map V.int)))
section
variable {X : Cx}
theorem ext_new {P : Program} {w : World} {κ : Type} [DecidableEq κ] {knd : PySem.KeyKind P w κ} {H : Hp} {h : Heap} {a : Addr} {ks : List κ} (R : Holds knd h a ks) : ObjOk P w H h a (.ext fun h => Holds knd h a ks) := by
  refine ⟨R, ?_, fun h1 h2 r k => r.at k⟩
  obtain ⟨L, ⟨o, es, ep, t, ho, _⟩, _⟩ := R
  exact ⟨o, ho⟩
theorem cr_setS (hc : X.calm = true) : CallR X (.type "set") (rSetS X.K X.prog X.w) := by
  intro pins s σ H xs us Q I r h
  obtain ⟨l, ks, rfl, hl, hn, q⟩ := h
  rw [Vals.ref1 r]
  have main : ∀ its : List Value, Vals (ks.map V.str) its → (s.heap.IsList l its.toArray ∨ s.heap.IsTuple l its.toArray) → wpAny (model X.prog X.w) X.A (call (.type "set") [.ref l]) (EP X pins σ Q) X.xe s := fun its rv hs => by
    have hlen := rv.length
    rw [List.length_map] at hlen
    refine call_setK (knd := PySem.strKind X.prog X.w) ks (I.ok.hd hc) hs (by rw [List.size_toArray]; exact hlen) (few_len hn) (fun i v hv => ?_) fun h' tk R old => ?_
    · rw [List.getElem?_toArray] at hv
      cases e : ks[i]? with
      | none =>
        rw [List.getElem?_eq_none_iff] at e
        rw [List.getElem?_eq_none (by omega)] at hv; cases hv
      | some k =>
        obtain ⟨u, hu, ru⟩ := rv.get (i := i) (x := V.str k) (by rw [List.getElem?_map, e]; rfl)
        rw [hv] at hu; cases hu
        obtain ⟨t, rfl⟩ := ru
        exact ⟨k, rfl, PySem.strKind_is _ _ _ _, rfl⟩
    · exact ⟨.ref s.heap.objs.size, _, I.laid (t' := tk) (o := SetSO X.prog X.w s.heap.objs.size ks) old (Nat.le_refl _) (ext_new R), rfl, q _ (I.hok.fresh (Nat.le_refl _))⟩
  rcases hl with hl | hl
  · obtain ⟨its, rv, hs, _⟩ := I.list hl; exact main its rv (.inl hs.isList)
  · obtain ⟨its, rv, hs, _⟩ := I.tuple hl; exact main its rv (.inr hs)
theorem cr_setI (hc : X.calm = true) : CallR X (.type "set") (rSetI X.K X.prog X.w) := by
  intro pins s σ H xs us Q I r h
  obtain ⟨l, ks, rfl, hl, hn, q⟩ := h
  rw [Vals.ref1 r]
  have main : ∀ its : List Value, Vals (ks.map V.int) its → (s.heap.IsList l its.toArray ∨ s.heap.IsTuple l its.toArray) → wpAny (model X.prog X.w) X.A (call (.type "set") [.ref l]) (EP X pins σ Q) X.xe s := fun its rv hs => by
    have hlen := rv.length
    rw [List.length_map] at hlen
    refine call_setK (knd := PySem.intKind X.prog X.w) ks (I.ok.hd hc) hs (by rw [List.size_toArray]; exact hlen) (few_len hn) (fun i v hv => ?_) fun h' tk R old => ?_
    · rw [List.getElem?_toArray] at hv
      cases e : ks[i]? with
      | none =>
        rw [List.getElem?_eq_none_iff] at e
        rw [List.getElem?_eq_none (by omega)] at hv; cases hv
      | some k =>
        obtain ⟨u, hu, ru⟩ := rv.get (i := i) (x := V.int k) (by rw [List.getElem?_map, e]; rfl)
        rw [hv] at hu; cases hu
        obtain ⟨t, rfl⟩ := ru
        exact ⟨k, rfl, PySem.intKind_is _ _ _ _, rfl⟩
    · exact ⟨.ref s.heap.objs.size, _, I.laid (t' := tk) (o := SetIO X.prog X.w s.heap.objs.size ks) old (Nat.le_refl _) (ext_new R), rfl, q _ (I.hok.fresh (Nat.le_refl _))⟩
  rcases hl with hl | hl
  · obtain ⟨its, rv, hs, _⟩ := I.list hl; exact main its rv (.inl hs.isList)
  · obtain ⟨its, rv, hs, _⟩ := I.tuple hl; exact main its rv (.inr hs)
def rSetI2 (K : PySem.W.Frag) (P : Program) (w : World) : List V → Hp → VK → Prop := fun vs H Q => ∃ (l : Addr) (xs : List Int), vs = [.ref l] ∧ (SqL K H l (xs.map V.int) ∨ SqT K H l (xs.map V.int)) ∧ Few xs ∧ ∀ p, H p = none → Q (.ref p) (upd H p (SetIO P w p xs))
theorem cr_setI2 (hc : X.calm = true) : CallR X (.type "set") (rSetI2 X.K X.prog X.w) := by
  intro pins s σ H xs us Q I r h
  obtain ⟨l, ks, rfl, hl, hn, q⟩ := h
  rw [Vals.ref1 r]
  have main : ∀ its : List Value, Vals (ks.map V.int) its → (s.heap.IsList l its.toArray ∨ s.heap.IsTuple l its.toArray) → wpAny (model X.prog X.w) X.A (call (.type "set") [.ref l]) (EP X pins σ Q) X.xe s := fun its rv hs => by
    have hlen := rv.length
    rw [List.length_map] at hlen
    refine call_setK (knd := PySem.intKind X.prog X.w) ks (I.ok.hd hc) hs (by rw [List.size_toArray]; exact hlen) hn (fun i v hv => ?_) fun h' tk R old => ?_
    · rw [List.getElem?_toArray] at hv
      cases e : ks[i]? with
      | none =>
        rw [List.getElem?_eq_none_iff] at e
        rw [List.getElem?_eq_none (by omega)] at hv; cases hv
      | some k =>
        obtain ⟨u, hu, ru⟩ := rv.get (i := i) (x := V.int k) (by rw [List.getElem?_map, e]; rfl)
        rw [hv] at hu; cases hu
        obtain ⟨t, rfl⟩ := ru
        exact ⟨k, rfl, PySem.intKind_is _ _ _ _, rfl⟩
    · exact ⟨.ref s.heap.objs.size, _, I.laid (t' := tk) (o := SetIO X.prog X.w s.heap.objs.size ks) old (Nat.le_refl _) (ext_new R), rfl, q _ (I.hok.fresh (Nat.le_refl _))⟩
  rcases hl with hl | hl
  · obtain ⟨its, rv, hs, _⟩ := I.list hl; exact main its rv (.inl hs.isList)
  · obtain ⟨its, rv, hs, _⟩ := I.tuple hl; exact main its rv (.inr hs)
theorem holds_of {pins : List (Addr × Obj)} {σ : L2.St} {H : Hp} {s : Shared} {p : Addr} {φ : Heap → Prop} (I : Inv X pins σ H s) (h : H p = some (.ext φ)) : φ s.heap := (I.hok p _ h).1
theorem cr_lenSetS : CallR X (.builtin "len") (rLenSetS X.prog X.w) := by
  intro pins s σ H xs us Q I r h
  obtain ⟨p, ks, rfl, hp, q⟩ := h
  rw [Vals.ref1 r]
  obtain ⟨L, ⟨o, es, ep, t, ho, hex, hd, hrow, nd, hb, hf, _⟩, _, hm⟩ := holds_of I hp
  have e := rows_len hrow
  refine call_len_set ho hex hd hf (by rw [e]; unfold scanBound at hb; omega) ⟨.int (L.length : Nat), H, I.tok _, ⟨_, by rw [e]⟩, q L nd hm⟩
theorem rows_strs {P : Program} {w : World} : ∀ {L : List Str} {l : List (Int × Value)}, RowsK (PySem.strKind P w) L l → StrsAre (l.map (·.2)) L
  | _, _, .nil => .nil
  | _, _, .cons (a := k) (b := e) r t => by
    obtain ⟨tk, ev⟩ := Value.isStrOf_shape (x := k) (v := e.2) r.1
    rw [List.map_cons, ev]
    exact .cons k tk (rows_strs t)
theorem rows_ints {P : Program} {w : World} : ∀ {L : List Int} {l : List (Int × Value)}, RowsK (PySem.intKind P w) L l → IntsAre (l.map (·.2)) L
  | _, _, .nil => .nil
  | _, _, .cons (a := k) (b := e) r t => by
    obtain ⟨tk, ev⟩ := Value.isInt_shape (k := k) (v := e.2) r.1
    rw [List.map_cons, ev]
    exact .cons k tk (rows_ints t)
theorem strs_perm {us vs : List Value} (p : us.Perm vs) : ∀ {L : List Str}, StrsAre us L → ∃ L', StrsAre vs L' ∧ L.Perm L' := by
  induction p with
  | nil => intro L h; cases h; exact ⟨[], .nil, .nil⟩
  | cons x _ ih =>
    intro L h
    cases h with
    | cons k t r => obtain ⟨L', h1, h2⟩ := ih r; exact ⟨k :: L', .cons k t h1, h2.cons _⟩
  | swap x y l =>
    intro L h
    cases h with
    | cons k t r => cases r with
      | cons k2 t2 r2 => exact ⟨_, .cons k2 t2 (.cons k t r2), .swap _ _ _⟩
  | trans _ _ ih1 ih2 =>
    intro L h
    obtain ⟨L1, a1, a2⟩ := ih1 h
    obtain ⟨L2, b1, b2⟩ := ih2 a1
    exact ⟨L2, b1, a2.trans b2⟩
theorem ints_perm {us vs : List Value} (p : us.Perm vs) : ∀ {L : List Int}, IntsAre us L → ∃ L', IntsAre vs L' ∧ L.Perm L' := by
  induction p with
  | nil => intro L h; cases h; exact ⟨[], .nil, .nil⟩
  | cons x _ ih =>
    intro L h
    cases h with
    | cons k t r => obtain ⟨L', h1, h2⟩ := ih r; exact ⟨k :: L', .cons k t h1, h2.cons _⟩
  | swap x y l =>
    intro L h
    cases h with
    | cons k t r => cases r with
      | cons k2 t2 r2 => exact ⟨_, .cons k2 t2 (.cons k t r2), .swap _ _ _⟩
  | trans _ _ ih1 ih2 =>
    intro L h
    obtain ⟨L1, a1, a2⟩ := ih1 h
    obtain ⟨L2, b1, b2⟩ := ih2 a1
    exact ⟨L2, b1, a2.trans b2⟩
theorem fin_laid {pins : List (Addr × Obj)} {σ : L2.St} {H : Hp} {s s' : Shared} {p : Addr} {o : HO} (I : Inv X pins σ H s) (k : ∀ b u, s.heap.get? b = some u → s'.heap.get? b = some u) (hp : s.heap.objs.size ≤ p) (new : ObjOk X.prog X.w (upd H p o) s'.heap p o) (hg : s'.gens = s.gens) (ho : s'.os = s.os) :
    Inv X pins σ (upd H p o) s' := by
  have J : Inv X pins σ (upd H p o) { s with heap := s'.heap, gens := s'.gens, drawn := s'.drawn, toks := s'.toks } :=
    I.call (ch := []) (Un.laid k hp (I.hok.fresh hp)) (I.hok.laid k hp new) (by rw [hg]; exact I.bare) (fun _ z => nomatch z)
  have e : { s with heap := s'.heap, gens := s'.gens, drawn := s'.drawn, toks := s'.toks } = s' := by
    cases s'; cases s; cases ho; rfl
  rw [e] at J
  exact J
theorem cr_sortSetS (hc : X.calm = true) : CallR X (.builtin "sorted") (rSortSetS X.prog X.w) := by
  intro pins s σ H xs us Q I r h
  obtain ⟨p, ks, rfl, hp, hsz, q⟩ := h
  rw [Vals.ref1 r]
  obtain ⟨L, ⟨o, es, ep, t, ho, hex, hd, hrow, nd, hb, hf, hr, hl⟩, _, hm⟩ := holds_of I hp
  have h64 := hsz L nd hm
  have e0 := rows_len hrow
  refine Calls.call_function_entry PyProof.Rows.kind_sorted PyProof.Rows.plain_sorted PyProof.Rows.entry_sorted (PyProof.Rows.args_sorted1 _) ?_
  unfold Builtin.«sorted»; refine wpAny_bind (m := checkCount "sorted" 1 1 _) (wpAny_pure (wpAny_bind (collect_set (A := X.A.in1) (I.ok.hd hc) ⟨o, ho, hex.1, hd⟩ hf (by rw [e0]; exact hb) hr hl fun s1 vs k1 hz g1 o1 pm => ?_)))
  obtain ⟨L1, hS, pL⟩ := strs_perm pm.symm (rows_strs hrow)
  have h64' : vs.length < 64 := by rw [hS.len_eq, ← pL.length_eq]; exact h64
  refine wpAny_bind (wpAny_newList ?_ (by rw [sizeLine_eq]; omega))
  have hoL : (s1.heap.push (seqObj "list" vs.toArray 0)).get? s1.heap.objs.size = some (seqObj "list" vs.toArray 0) := Heap.get?_push_size _ rfl
  refine wpAny_bind (wpAny_holding (wpAny_call_entry PyProof.Rows.slot_list_sort ⟨_, hoL, rfl⟩ PyProof.Rows.entry_list_sort (list_sort_treeK strKind_oneLt (s := { s1 with heap := s1.heap.push (seqObj "list" vs.toArray 0) }) hoL hS.keysOf (fun v₁ v₂ rest e => keyKind_strs (by rw [← e]; exact hS)) h64' fun st' hp' hs' => ⟨_, rfl, ?_⟩) (PyProof.Rows.args_list_sort _)))
  obtain ⟨ys, g1', g2, g3⟩ := sorted_out_str hS hp' hs'
  obtain ⟨e', he'⟩ := PyProof.Rows.sortedHeap_at (vs := vs) (out := (arrOf st').map (·.2)) hoL
  have pAll : ys.Perm L := g2.trans pL.symm
  have hlen : (ys.map V.str).length ≤ sizeLine := by rw [List.length_map, pAll.length_eq, sizeLine_eq]; omega
  refine wpAny_pure ⟨_, rfl, .ref s1.heap.objs.size, upd H s1.heap.objs.size (.lst (ys.map V.str)), fin_laid I (fun b u e => ?_) hz ?_ g1 o1, rfl, q ys _ (pAll.nodup_iff.mpr nd) (fun k => by rw [pAll.mem_iff, hm]) g3 (I.hok.fresh hz)⟩
  · have q' := k1 b u e
    have hlt := Heap.lt_size q'
    rw [PyProof.Rows.sortedHeap_old (Nat.ne_of_lt hlt) (by rw [size_push']; exact Nat.lt_succ_of_lt hlt)]
    exact Heap.get?_push_of_some _ q'
  · exact ⟨hlen, ((arrOf st').map (·.2)).toList, e', vals_of_strs g1', by rw [Array.toArray_toList]; exact he'⟩
theorem cr_sortSetI (hc : X.calm = true) : CallR X (.builtin "sorted") (rSortSetI X.prog X.w) := by
  intro pins s σ H xs us Q I r h
  obtain ⟨p, ks, rfl, hp, hsz, q⟩ := h
  rw [Vals.ref1 r]
  obtain ⟨L, ⟨o, es, ep, t, ho, hex, hd, hrow, nd, hb, hf, hr, hl⟩, _, hm⟩ := holds_of I hp
  have h64 := hsz L nd hm
  have e0 := rows_len hrow
  refine Calls.call_function_entry PyProof.Rows.kind_sorted PyProof.Rows.plain_sorted PyProof.Rows.entry_sorted (PyProof.Rows.args_sorted1 _) ?_
  unfold Builtin.«sorted»; refine wpAny_bind (m := checkCount "sorted" 1 1 _) (wpAny_pure (wpAny_bind (collect_set (A := X.A.in1) (I.ok.hd hc) ⟨o, ho, hex.1, hd⟩ hf (by rw [e0]; exact hb) hr hl fun s1 vs k1 hz g1 o1 pm => ?_)))
  obtain ⟨L1, hS, pL⟩ := ints_perm pm.symm (rows_ints hrow)
  have h64' : vs.length < 64 := by rw [hS.length, ← pL.length_eq]; exact h64
  refine wpAny_bind (wpAny_newList ?_ (by rw [sizeLine_eq]; omega))
  have hoL : (s1.heap.push (seqObj "list" vs.toArray 0)).get? s1.heap.objs.size = some (seqObj "list" vs.toArray 0) := Heap.get?_push_size _ rfl
  refine wpAny_bind (wpAny_holding (wpAny_call_entry PyProof.Rows.slot_list_sort ⟨_, hoL, rfl⟩ PyProof.Rows.entry_list_sort (list_sort_tree hoL hS h64' fun out ys a1 a2 a3 => ⟨_, rfl, ?_⟩) (PyProof.Rows.args_list_sort _)))
  obtain ⟨e', he'⟩ := PyProof.Rows.sortedHeap_at (vs := vs) (out := out) hoL
  have pAll : ys.Perm L := a2.trans pL.symm
  have hlen : (ys.map V.int).length ≤ sizeLine := by rw [List.length_map, pAll.length_eq, sizeLine_eq]; omega
  refine wpAny_pure ⟨_, rfl, .ref s1.heap.objs.size, upd H s1.heap.objs.size (.lst (ys.map V.int)), fin_laid I (fun b u e => ?_) hz ?_ g1 o1, rfl, q ys _ (lt_of_le_nodup ys a3 (pAll.nodup_iff.mpr nd)) (fun k => by rw [pAll.mem_iff, hm]) (I.hok.fresh hz)⟩
  · have q' := k1 b u e
    have hlt := Heap.lt_size q'
    rw [PyProof.Rows.sortedHeap_old (Nat.ne_of_lt hlt) (by rw [size_push']; exact Nat.lt_succ_of_lt hlt)]
    exact Heap.get?_push_of_some _ q'
  · exact ⟨hlen, out.toList, e', vals_of_ints a1, he'⟩
end
end BNS
namespace BNZ
open PySem PySem.Spec PyProof.Rows L2
/-! ### a zip whose last tuple is still held: any two iterators -/
section
variable {prog : Program} {w : World} {A : Around} {E : Value → Shared → Prop} {s : Shared} {z TI TO T i1 i2 : Addr} {fp1 fp2 : List Addr} {n1 n2 i : Nat} {P1 P2 : Nat → Value → Prop} {St1 St2 : Nat → Heap → Prop} {f : Bool} {oT : Obj}
theorem held_item {Q : Value → Shared → Prop} (S : ZipSep2 z TI TO i1 i2 fp1 fp2) (D1 : Draws prog w A i1 fp1 n1 P1 St1) (D2 : Draws prog w A i2 fp2 n2 P2 St2)
    (hz : IsZipHeld s.heap z TI TO T f) (hT : s.heap.get? T = some oT) (hTI : IsTupOf2 s.heap TI (.ref i1) (.ref i2)) (st1 : St1 i s.heap) (st2 : St2 i s.heap) (hlt1 : i < n1) (hlt2 : i < n2)
    (hQ : ∀ x1 x2 h' tk, P1 i x1 → P2 i x2 → IsZipHeld h' z TI TO T true → St1 (i + 1) h' → St2 (i + 1) h' → IsTupOf2 h' s.heap.objs.size x1 x2 → h'.objs.size = s.heap.objs.size + 1 →
      (∀ c o, c ≠ z → c ≠ i1 → c ≠ i2 → s.heap.get? c = some o → h'.get? c = some o) → Q (.ref s.heap.objs.size) { s with heap := h', toks := tk }) :
    wpAny (model prog w) A (Builtin.«zip.__next__» ⟨[.ref z], []⟩) (fun fin s' => ∃ v, fin = .done (.ret v) ∧ Q v s') E s := by
  obtain ⟨hp, g, d, tk0, os⟩ := s
  show wpAny _ _ (field (.ref z) 2 >>= _) _ _ _
  refine wpAny_bind (wpAny_field hz rfl (x := .bool false) rfl ?_)
  show wpAny _ _ (field (.ref z) 3 >>= _) _ _ _
  refine wpAny_bind (wpAny_field hz rfl (x := .ref TI) rfl ?_)
  refine wpAny_bind (wpAny_seqItems hTI rfl ?_)
  show wpAny _ _ (Builtin.SmallTypes.ownedTupleIsFree (.ref z) >>= _) _ _ _
  refine wpAny_bind (wpAny_tupleHeld_zip hz hT fun g0 hz0 hs0 => ?_)
  replace hs0 : Heap.SameBut z hp g0 := hs0
  simp only [Bool.false_eq_true, if_false]
  refine wpAny_bind ?_
  rw [← Array.forIn_toList]
  simp only [List.forIn_cons, List.forIn_nil]
  refine wpAny_bind (wpAny_bind (wpAny_holding ?_))
  show wpAny _ _ (Builtin.SmallTypes.nextOf (.ref i1) >>= _) _ _ ⟨g0, g, d, tk0, os⟩
  refine wpAny_bind (D1.item i _ _ _ hlt1 (D1.over st1 hs0 S.zf1) fun x1 p1 tk1 hx1 sn1 hp1 => wpAny_pure ?_)
  replace hp1 : Heap.SameBut i1 g0 p1 := hp1
  refine wpAny_pure ?_
  refine wpAny_bind (wpAny_bind (wpAny_holding ?_))
  show wpAny _ _ (Builtin.SmallTypes.nextOf (.ref i2) >>= _) _ _ ⟨p1, g, d, tk1, os⟩
  refine wpAny_bind (D2.item i _ _ _ hlt2 (D2.over (D2.over st2 hs0 S.zf2) hp1 S.sep1_2) fun x2 p2 tk2 hx2 sn2 hp2 => wpAny_pure ?_)
  replace hp2 : Heap.SameBut i2 p1 p2 := hp2
  refine wpAny_pure (wpAny_pure ?_)
  show wpAny _ _ (newTuple [x1, x2] >>= _) _ _ ⟨p2, g, d, tk2, os⟩
  refine wpAny_bind (wpAny_newTuple ?_)
  have hsz : p2.objs.size = hp.objs.size := by rw [hp2.1, hp1.1, hs0.1]
  have hzz : IsZipHeld p2 z TI TO T true := hp2.extBut _ _ S.zi2 (hp1.extBut _ _ S.zi1 hz0)
  have hk : ∀ c o, c ≠ z → c ≠ i1 → c ≠ i2 → hp.get? c = some o → p2.get? c = some o := fun c o c1 c2 c3 e => hp2.extBut _ _ c3 (hp1.extBut _ _ c2 (hs0.extBut _ _ c1 e))
  have hj1 : St1 (i + 1) p2 := D1.over sn1 hp2 S.sep2_1
  refine wpAny_pure ⟨_, rfl, ?_⟩
  show Q (.ref p2.objs.size) ⟨p2.push { cls := .type "tuple", data := .seq #[x1, x2] }, g, d, tk2, os⟩
  have hp' : IsTupOf2 (p2.push { cls := .type "tuple", data := .seq #[x1, x2] }) p2.objs.size x1 x2 := Heap.get?_push_size _ rfl
  have hz4 : (p2.push { cls := .type "tuple", data := .seq #[x1, x2] }).objs.size = p2.objs.size + 1 := Heap.size_push ..
  rw [hsz] at hp' hz4 ⊢
  exact hQ x1 x2 _ tk2 hx1 hx2 (Heap.get?_push_of_some _ hzz) (D1.frame _ _ _ hj1 fun b _ o e => Heap.get?_push_of_some _ e) (D2.frame _ _ _ sn2 fun b _ o e => Heap.get?_push_of_some _ e) hp' hz4 fun c o c1 c2 c3 e => Heap.get?_push_of_some _ (hk c o c1 c2 c3 e)
theorem held_end {Q : Fin → Shared → Prop} (S : ZipSep2 z TI TO i1 i2 fp1 fp2) (D1 : Draws prog w A i1 fp1 n1 P1 St1)
    (hz : IsZipHeld s.heap z TI TO T f) (hT : s.heap.get? T = some oT) (hTI : IsTupOf2 s.heap TI (.ref i1) (.ref i2)) (st1 : St1 n1 s.heap)
    (hE : ∀ h' e, (∀ c o, c ≠ z → c ≠ i1 → s.heap.get? c = some o → h'.get? c = some o) → (∃ o, h'.get? e = some o ∧ o.cls = .type "StopIteration") → E (.ref e) { s with heap := h' }) :
    wpAny (model prog w) A (Builtin.«zip.__next__» ⟨[.ref z], []⟩) Q E s := by
  obtain ⟨hp, g, d, tk0, os⟩ := s
  show wpAny _ _ (field (.ref z) 2 >>= _) _ _ _
  refine wpAny_bind (wpAny_field hz rfl (x := .bool false) rfl ?_)
  show wpAny _ _ (field (.ref z) 3 >>= _) _ _ _
  refine wpAny_bind (wpAny_field hz rfl (x := .ref TI) rfl ?_)
  refine wpAny_bind (wpAny_seqItems hTI rfl ?_)
  show wpAny _ _ (Builtin.SmallTypes.ownedTupleIsFree (.ref z) >>= _) _ _ _
  refine wpAny_bind (wpAny_tupleHeld_zip hz hT fun g0 hz0 hs0 => ?_)
  replace hs0 : Heap.SameBut z hp g0 := hs0
  simp only [Bool.false_eq_true, if_false]
  refine wpAny_bind ?_
  rw [← Array.forIn_toList]
  simp only [List.forIn_cons, List.forIn_nil]
  refine wpAny_bind (wpAny_bind (wpAny_holding ?_))
  show wpAny _ _ (Builtin.SmallTypes.nextOf (.ref i1) >>= _) _ _ ⟨g0, g, d, tk0, os⟩
  refine wpAny_bind (D1.done ⟨g0, g, d, tk0, os⟩ _ _ (D1.over st1 hs0 S.zf1) fun q e hq he => ?_)
  replace hq : Heap.ExtBut i1 g0 q := hq
  exact hE q e (fun c o cz c1 x => hq _ _ c1 (hs0.extBut _ _ cz x)) he
/-- where a zip stands between two items -/
def ZSt (z TI TO i1 i2 L : Addr) (St1 St2 : Nat → Heap → Prop) (i : Nat) (h : Heap) : Prop :=
  IsTupOf2 h TI (.ref i1) (.ref i2) ∧ St1 i h ∧ St2 i h ∧ ((IsZip h z TI TO .none ∧ ∃ a1 a2, IsTupOf2 h TO a1 a2) ∨ ∃ T f oT, IsZipHeld h z TI TO T f ∧ h.get? T = some oT ∧ T ≠ z ∧ T ≠ i1 ∧ T ≠ i2 ∧ T ≠ L)
structure ZLow (z TI TO i1 i2 L : Addr) (fp1 fp2 : List Addr) : Prop where
  z : z < L
  TI : TI < L
  TO : TO < L
  i1 : i1 < L
  i2 : i2 < L
  f1 : ∀ b ∈ fp1, b < L
  f2 : ∀ b ∈ fp2, b < L
theorem ZSt.keep {L : Addr} {h h' : Heap} (D1 : Draws prog w A i1 fp1 n1 P1 St1) (D2 : Draws prog w A i2 fp2 n2 P2 St2) (Z : ZLow z TI TO i1 i2 L fp1 fp2) (x : ZSt z TI TO i1 i2 L St1 St2 i h) (k : ∀ b o, b ≠ L → h.get? b = some o → h'.get? b = some o) : ZSt z TI TO i1 i2 L St1 St2 i h' := by
  obtain ⟨h1, s1, s2, h2⟩ := x
  refine ⟨k _ _ (Nat.ne_of_lt Z.TI) h1, D1.frame _ _ _ s1 fun b hb o e => k b o (Nat.ne_of_lt (Z.f1 b hb)) e, D2.frame _ _ _ s2 fun b hb o e => k b o (Nat.ne_of_lt (Z.f2 b hb)) e, ?_⟩
  rcases h2 with ⟨h2, a1, a2, h3⟩ | ⟨T, f, oT, h2, h3, t1, t2, t3, t4⟩
  · exact .inl ⟨k _ _ (Nat.ne_of_lt Z.z) h2, a1, a2, k _ _ (Nat.ne_of_lt Z.TO) h3⟩
  · exact .inr ⟨T, f, oT, k _ _ (Nat.ne_of_lt Z.z) h2, k _ _ t4 h3, t1, t2, t3, t4⟩
theorem z_item {L : Addr} {Q : Option Value → Shared → Prop} (S : ZipSep2 z TI TO i1 i2 fp1 fp2) (D1 : Draws prog w A.in1 i1 fp1 n1 P1 St1) (D2 : Draws prog w A.in1 i2 fp2 n2 P2 St2) (Z : ZLow z TI TO i1 i2 L fp1 fp2)
    (x : ZSt z TI TO i1 i2 L St1 St2 i s.heap) (hlt1 : i < n1) (hlt2 : i < n2) (hL : L < s.heap.objs.size)
    (hQ : ∀ x1 x2 h' tk, P1 i x1 → P2 i x2 → ZSt z TI TO i1 i2 L St1 St2 (i + 1) h' → IsTupOf2 h' s.heap.objs.size x1 x2 → h'.objs.size = s.heap.objs.size + 1 →
      (∀ c o, c ≠ z → c ≠ TO → c ≠ i1 → c ≠ i2 → s.heap.get? c = some o → h'.get? c = some o) → Q (some (.ref s.heap.objs.size)) { s with heap := h', toks := tk }) :
    wpAny (model prog w) A (pyNext (.ref z)) Q E s := by
  obtain ⟨hTI, s1, s2, h2⟩ := x
  have big : ∀ {b : Addr}, b < L → s.heap.objs.size ≠ b := fun hb => Nat.ne_of_gt (Nat.lt_trans hb hL)
  rcases h2 with ⟨h2, a1, a2, h3⟩ | ⟨T, f, oT, h2, h3, t1, t2, t3, t4⟩
  · refine wpAny_pyNext_zipD2_item S D1 D2 h2 hTI h3 s1 s2 hlt1 hlt2 fun x1 x2 h' tk y1 y2 b1 b2 d1 d2 b5 b6 hk => ?_
    exact hQ x1 x2 h' tk y1 y2 ⟨hk _ _ S.TIz S.TITO S.TIi1 S.TIi2 hTI, d1, d2, .inr ⟨_, false, _, b1, b5, big Z.z, big Z.i1, big Z.i2, Nat.ne_of_gt hL⟩⟩ b5 b6 hk
  · have hTy : s.TypeIs (.ref z) "zip" := ⟨_, h2, rfl⟩
    unfold pyNext
    exact wpAny_bind (wpAny_attempt (wpAny_callSpecial?_slot (name := Str.ofString "__next__") hTy F.slot_zip_next
      (wpAny_call_entry F.slot_zip_next hTy F.entry_zip_next
        (held_item S D1 D2 h2 h3 hTI s1 s2 hlt1 hlt2 fun x1 x2 h' tk y1 y2 b1 d1 d2 b5 b6 hk => wpAny_pure (hQ x1 x2 h' tk y1 y2 ⟨hk _ _ S.TIz S.TIi1 S.TIi2 hTI, d1, d2, .inr ⟨T, true, oT, b1, hk _ _ t1 t2 t3 h3, t1, t2, t3, t4⟩⟩ b5 b6 fun c o c1 _ c3 c4 e => hk c o c1 c3 c4 e)) (F.args_zip_next_1 _))))
theorem z_done {L : Addr} {Q : Option Value → Shared → Prop} (S : ZipSep2 z TI TO i1 i2 fp1 fp2) (D1 : Draws prog w A.in1 i1 fp1 n1 P1 St1) (D2 : Draws prog w A.in1 i2 fp2 n1 P2 St2) (x : ZSt z TI TO i1 i2 L St1 St2 n1 s.heap)
    (hQ : ∀ h' tk, (∀ c o, c ≠ z → c ≠ TO → c ≠ i1 → c ≠ i2 → s.heap.get? c = some o → h'.get? c = some o) → Q none { s with heap := h', toks := tk }) : wpAny (model prog w) A (pyNext (.ref z)) Q E s := by
  obtain ⟨hTI, s1, s2, h2⟩ := x
  rcases h2 with ⟨h2, a1, a2, h3⟩ | ⟨T, f, oT, h2, h3, t1, t2, t3, t4⟩
  · exact wpAny_pyNext_zipD2_end S D1 D2 h2 hTI h3 s1 s2 (Nat.le_refl _) (Nat.le_refl _) (.inl rfl) hQ
  · have hTy : s.TypeIs (.ref z) "zip" := ⟨_, h2, rfl⟩
    unfold pyNext
    refine wpAny_bind (wpAny_attempt (wpAny_callSpecial?_slot (name := Str.ofString "__next__") hTy F.slot_zip_next
      (wpAny_call_entry F.slot_zip_next hTy F.entry_zip_next (held_end S D1 h2 h3 hTI s1 fun h' e hk he => ?_) (F.args_zip_next_1 _))))
    obtain ⟨o, ho, hc⟩ := he
    refine wpAny_bind (wpAny_isInstance (T := "StopIteration") (b := true) ⟨o, ho, hc⟩ isSubtype_stop ?_)
    exact wpAny_pure (hQ _ s.toks fun c o c1 _ c3 _ e => hk c o c1 c3 e)
end
end BNZ
namespace BNZ
open PySem PySem.Calls PySem.Spec PyProof.Rows L2
/-- the tuples made so far, at as, above lo -/
structure ZG (P1 P2 : Nat → Value → Prop) (lo : Addr) (h : Heap) (as : List Addr) : Prop where
  rise : as.Pairwise (· < ·)
  above : ∀ a ∈ as, lo < a
  pairs : ∀ (j : Nat) (a : Addr), as[j]? = some a → ∃ x1 x2, P1 j x1 ∧ P2 j x2 ∧ IsTupOf2 h a x1 x2
theorem ZG.there {P1 P2 : Nat → Value → Prop} {lo : Addr} {h : Heap} {as : List Addr} (g : ZG P1 P2 lo h as) {a : Addr} (ha : a ∈ as) : a < h.objs.size := by
  obtain ⟨j, hj⟩ := List.mem_iff_getElem?.mp ha
  obtain ⟨_, _, _, _, e⟩ := g.pairs j a hj
  exact Heap.lt_size e
namespace F
theorem zip_no_len : typeLookup (.type "zip") "__len__" = pure none := by rw [typeLookup_type, builtinLookup_eq_fast]; kernel_rfl
theorem zip_no_hint : typeLookup (.type "zip") "__length_hint__" = pure none := by rw [typeLookup_type, builtinLookup_eq_fast]; kernel_rfl
end F
section
variable {prog : Program} {w : World} {A : Around} {E : Value → Shared → Prop} {s : Shared} {R : Result → Shared → Prop} {z TI TO i1 i2 : Addr} {fp1 fp2 : List Addr} {n : Nat} {P1 P2 : Nat → Value → Prop} {St1 St2 : Nat → Heap → Prop}
theorem z_loop {L : Addr} (S : ZipSep2 z TI TO i1 i2 fp1 fp2) (D1 : Draws prog w A.in1.in1 i1 fp1 n P1 St1) (D2 : Draws prog w A.in1.in1 i2 fp2 n P2 St2) (Z : ZLow z TI TO i1 i2 L fp1 fp2) (hn : n ≤ sizeLine) (res : Value) {h₁ : Heap}
    (hR : ∀ h' tk acc c as, (∀ b o, b ≠ L → b ≠ z → b ≠ TO → b ≠ i1 → b ≠ i2 → h₁.get? b = some o → h'.get? b = some o) → h'.get? L = some { cls := .type "list", dict := none, data := .seq acc c, slots := #[] } → as.length = n → ZG P1 P2 L h' as →
      acc.toList = as.map Value.ref → R (.ok (.ret res)) { s with heap := h', toks := tk }) :
    ∀ (k i : Nat) (h : Heap) (tk c : Nat) (acc : Array Value) (as : List Addr), n - i = k → i ≤ n → ZSt z TI TO i1 i2 L St1 St2 i h → (∀ b o, b ≠ L → b ≠ z → b ≠ TO → b ≠ i1 → b ≠ i2 → h₁.get? b = some o → h.get? b = some o) →
      h.get? L = some { cls := .type "list", dict := none, data := .seq acc c, slots := #[] } → acc.toList = as.map Value.ref → as.length = i → ZG P1 P2 L h as →
      codeAny (model prog w) A (.builtin "list.extend.loop" ⟨[.ref L, .ref z, res], []⟩) R { s with heap := h, toks := tk } := by
  intro k
  induction k with
  | zero =>
    intro i h tk c acc as hk hi hst hkeep hS hacc hal hG
    have hin : i = n := by omega
    subst hin
    refine codeAny_builtin PySem.F.entry_extend_loop ?_
    rw [Around.under_plainId PySem.F.plain_extend_loop _]
    show wpAny _ A.in1 (pyNext (.ref z) >>= _) _ _ _
    refine wpAny_bind (z_done (s := { s with heap := h, toks := tk }) (A := A.in1) S D1 D2 hst fun h' tk' he => ?_)
    have low : ∀ {b : Addr}, L ≤ b → b ≠ z ∧ b ≠ TO ∧ b ≠ i1 ∧ b ≠ i2 := fun {b} hb => ⟨Nat.ne_of_gt (Nat.lt_of_lt_of_le Z.z hb), Nat.ne_of_gt (Nat.lt_of_lt_of_le Z.TO hb), Nat.ne_of_gt (Nat.lt_of_lt_of_le Z.i1 hb), Nat.ne_of_gt (Nat.lt_of_lt_of_le Z.i2 hb)⟩
    have q : ∀ {b : Addr} {o : Obj}, L ≤ b → h.get? b = some o → h'.get? b = some o := fun {b o} hb e => he b o (low hb).1 (low hb).2.1 (low hb).2.2.1 (low hb).2.2.2 e
    refine wpAny_pure (hR h' tk' acc c as (fun b o a1 a2 a3 a4 a5 e => he b o a2 a3 a4 a5 (hkeep b o a1 a2 a3 a4 a5 e)) (q (Nat.le_refl _) hS) hal ⟨hG.rise, hG.above, fun j a hj => ?_⟩ hacc)
    obtain ⟨x1, x2, y1, y2, e⟩ := hG.pairs j a hj
    exact ⟨x1, x2, y1, y2, q (Nat.le_of_lt (hG.above a (List.mem_of_getElem? hj))) e⟩
  | succ k ih =>
    intro i h tk c acc as hk hi hst hkeep hS hacc hal hG
    have hlt : i < n := by omega
    have hsz : acc.size = i := by rw [← Array.length_toList, hacc, List.length_map, hal]
    have hSl : L < h.objs.size := Heap.lt_size hS
    have low : ∀ {b : Addr}, L ≤ b → b ≠ z ∧ b ≠ TO ∧ b ≠ i1 ∧ b ≠ i2 := fun {b} hb => ⟨Nat.ne_of_gt (Nat.lt_of_lt_of_le Z.z hb), Nat.ne_of_gt (Nat.lt_of_lt_of_le Z.TO hb), Nat.ne_of_gt (Nat.lt_of_lt_of_le Z.i1 hb), Nat.ne_of_gt (Nat.lt_of_lt_of_le Z.i2 hb)⟩
    refine codeAny_builtin PySem.F.entry_extend_loop ?_
    rw [Around.under_plainId PySem.F.plain_extend_loop _]
    show wpAny _ A.in1 (pyNext (.ref z) >>= _) _ _ _
    refine wpAny_bind (z_item (s := { s with heap := h, toks := tk }) (A := A.in1) S D1 D2 Z hst hlt hlt hSl fun x1 x2 h' tk' y1 y2 hst' ht hz hkp => ?_)
    have q : ∀ {b : Addr} {o : Obj}, L ≤ b → h.get? b = some o → h'.get? b = some o := fun {b o} hb e => hkp b o (low hb).1 (low hb).2.1 (low hb).2.2.1 (low hb).2.2.2 e
    dsimp only at ht hz hkp ⊢
    have hS' := q (Nat.le_refl _) hS
    have up : ∀ b o, b ≠ L → h'.get? b = some o → (h'.update L (Obj.mapSeq (·.push (Value.ref h.objs.size)))).get? b = some o := fun b o hb e => (Heap.get?_update_other _ _ (Ne.symm hb)).trans e
    show wpAny _ A.in1 (updateSeq L (·.push (Value.ref h.objs.size)) >>= _) _ _ _
    refine wpAny_bind ?_
    refine wpAny_updateSeq hS' rfl (wpAny_pure ⟨plainId_quiet PySem.F.plain_extend_loop _, ih (i + 1) _ tk' _ (acc.push (Value.ref h.objs.size)) (as ++ [h.objs.size]) (by omega) hlt (hst'.keep D1 D2 Z up)
      (fun b o a1 a2 a3 a4 a5 e => up b o a1 (hkp b o a2 a3 a4 a5 (hkeep b o a1 a2 a3 a4 a5 e))) (Heap.get?_update_self _ hS' rfl) (by rw [Array.toList_push, hacc, List.map_append]; rfl) (by rw [List.length_append, hal]; rfl) ⟨?_, ?_, ?_⟩⟩) (by rw [hsz]; omega) (by show (acc.push (Value.ref h.objs.size)).size ≤ sizeLine + 1; rw [Array.size_push, hsz]; omega)
    · refine List.pairwise_append.mpr ⟨hG.rise, List.pairwise_singleton _ _, fun a ha b hb => ?_⟩
      rw [List.mem_singleton.mp hb]
      exact hG.there ha
    · intro a ha
      rcases List.mem_append.mp ha with ha | ha
      · exact hG.above a ha
      · rw [List.mem_singleton.mp ha]; exact hSl
    · intro j b hj
      rcases Nat.lt_trichotomy j as.length with h1 | h1 | h1
      · rw [List.getElem?_append_left h1] at hj
        obtain ⟨u1, u2, v1, v2, e3⟩ := hG.pairs j b hj
        have hb := hG.above b (List.mem_of_getElem? hj)
        exact ⟨u1, u2, v1, v2, up b _ (Nat.ne_of_gt hb) (q (Nat.le_of_lt hb) e3)⟩
      · subst h1
        have hb : h.objs.size = b := by simpa using hj
        subst hb
        subst hal
        exact ⟨x1, x2, y1, y2, up _ _ (Nat.ne_of_gt hSl) ht⟩
      · have hnone : (as ++ [h.objs.size])[j]? = none := List.getElem?_eq_none (by rw [List.length_append, List.length_singleton]; omega)
        rw [hnone] at hj; cases hj
theorem z_extend {L : Addr} (S : ZipSep2 z TI TO i1 i2 fp1 fp2) (D1 : Draws prog w A.in1.in1 i1 fp1 n P1 St1) (D2 : Draws prog w A.in1.in1 i2 fp2 n P2 St2) (Z : ZLow z TI TO i1 i2 L fp1 fp2) (hn : n ≤ sizeLine) (res : Value) (c₀ : Nat)
    (hst : ZSt z TI TO i1 i2 L St1 St2 0 s.heap) (hZ : IsZip s.heap z TI TO .none) (hS : s.heap.get? L = some { cls := .type "list", data := .seq #[] c₀ })
    (hR : ∀ h' tk acc c as, (∀ b o, b ≠ L → b ≠ z → b ≠ TO → b ≠ i1 → b ≠ i2 → s.heap.get? b = some o → h'.get? b = some o) → h'.get? L = some { cls := .type "list", dict := none, data := .seq acc c, slots := #[] } → as.length = n → ZG P1 P2 L h' as →
      acc.toList = as.map Value.ref → R (.ok (.ret res)) { s with heap := h', toks := tk }) :
    wpAny (model prog w) A.in1 (Builtin.List.listExtendWith (.ref L) (.ref z) res)
      (fun fin s' => match fin with | .done f => R (.ok f) s' | .again c' => c'.quiet = true ∧ codeAny (model prog w) A c' R s') (fun e s' => R (.error e) s') s := by
  have hTy : s.TypeIs (.ref z) "zip" := ⟨_, hZ, rfl⟩
  unfold Builtin.List.listExtendWith
  refine wpAny_bind (wpAny_typeOf hTy ?_)
  have hzL : L ≠ z := Nat.ne_of_gt Z.z
  have h1 : Builtin.List.listSameRef (.ref L) (.ref z) = false := by simp [Builtin.List.listSameRef, hzL]
  have h2 : (Value.type "zip" == Value.type "list") = false := by decide
  have h3 : (Value.type "zip" == Value.type "tuple") = false := by decide
  simp only [h1, h2, h3, Bool.or_false, Bool.false_eq_true, if_false]
  refine wpAny_bind (wpAny_pyIter_zip hZ ?_)
  refine wpAny_bind (wpAny_holding ?_)
  unfold Builtin.List.listLengthHint
  refine wpAny_bind (wpAny_specialOf hTy F.zip_no_len ?_)
  show wpAny _ A.in1 (specialOf (Value.ref z) (Str.ofString "__length_hint__") >>= _) _ _ _
  refine wpAny_bind (wpAny_specialOf hTy F.zip_no_hint ?_)
  refine wpAny_pure ?_
  show wpAny _ A.in1 (rule "list.extend.makes-room" >>= fun _ => Builtin.List.listTouch (.ref L) >>= fun _ => again (.builtin "list.extend.loop" ⟨[.ref L, .ref z, res], []⟩)) _ _ _
  refine wpAny_bind (wpAny_rule ?_)
  refine wpAny_bind ?_
  show wpAny _ A.in1 (updateSeq L (·.push .none) >>= fun _ => updateSeq L (·.pop)) _ _ _
  refine wpAny_bind (wpAny_updateSeq hS rfl ?_)
  have hS₂ := Heap.get?_update_self (Obj.mapSeq (·.push Value.none)) hS rfl
  refine wpAny_updateSeq (hz := by seq_fits) hS₂ rfl ?_
  have hS₃ := Heap.get?_update_self (Obj.mapSeq (·.pop)) hS₂ rfl
  have oth : ∀ b o, b ≠ L → s.heap.get? b = some o → ((s.heap.update L (Obj.mapSeq (·.push Value.none))).update L (Obj.mapSeq (·.pop))).get? b = some o :=
    fun b o hb e => (Heap.get?_update_other _ _ (Ne.symm hb)).trans ((Heap.get?_update_other _ _ (Ne.symm hb)).trans e)
  refine wpAny_pure ⟨plainId_quiet PySem.F.plain_extend_loop _, ?_⟩
  refine z_loop (s := s) (h₁ := s.heap) S D1 D2 Z hn res hR n 0 _ s.toks _ #[] [] (Nat.sub_zero _) (Nat.zero_le _) (hst.keep D1 D2 Z oth) (fun b o a1 _ _ _ _ e => oth b o a1 e) hS₃ rfl rfl ⟨List.Pairwise.nil, (fun _ ha => nomatch ha), (fun j a hj => by simp at hj)⟩
theorem z_init {L : Addr} (S : ZipSep2 z TI TO i1 i2 fp1 fp2) (D1 : Draws prog w A.in1.in1 i1 fp1 n P1 St1) (D2 : Draws prog w A.in1.in1 i2 fp2 n P2 St2) (Z : ZLow z TI TO i1 i2 L fp1 fp2) (hn : n ≤ sizeLine)
    (hst : ZSt z TI TO i1 i2 L St1 St2 0 s.heap) (hZ : IsZip s.heap z TI TO .none) (hS : s.heap.get? L = some { cls := .type "list", data := .seq #[] })
    (hR : ∀ h' tk acc c as, (∀ b o, b ≠ L → b ≠ z → b ≠ TO → b ≠ i1 → b ≠ i2 → s.heap.get? b = some o → h'.get? b = some o) → h'.get? L = some { cls := .type "list", dict := none, data := .seq acc c, slots := #[] } → as.length = n → ZG P1 P2 L h' as →
      acc.toList = as.map Value.ref → R (.ok (.ret .none)) { s with heap := h', toks := tk }) :
    wpAny (model prog w) A.in1 (Builtin.«list.__init__» ⟨[.ref L, .ref z], []⟩)
      (fun fin s' => match fin with | .done f => R (.ok f) s' | .again c' => c'.quiet = true ∧ codeAny (model prog w) A c' R s') (fun e s' => R (.error e) s') s := by
  show wpAny _ _ (do let old ← Builtin.List.listItems (.ref L); Builtin.List.listUpdate (.ref L) (fun _ => #[]); letGo old.toList.reverse; Builtin.List.listExtendWith (.ref L) (.ref z) .none) _ _ s
  refine wpAny_bind ?_
  unfold Builtin.List.listItems
  refine wpAny_bind (wpAny_seqItems hS rfl (wpAny_pure ?_))
  show wpAny _ _ (updateSeq L (fun _ => #[]) >>= fun _ => letGo (#[] : Array Value).toList.reverse >>= fun _ => Builtin.List.listExtendWith (.ref L) (.ref z) .none) _ _ s
  refine wpAny_bind (wpAny_updateSeq hS rfl ?_)
  have hS₂ := Heap.get?_update_self (Obj.mapSeq (fun _ => (#[] : Array Value))) hS rfl
  have oth : ∀ b o, b ≠ L → s.heap.get? b = some o → (s.heap.update L (Obj.mapSeq (fun _ => (#[] : Array Value)))).get? b = some o :=
    fun b o hb e => (Heap.get?_update_other _ _ (Ne.symm hb)).trans e
  refine wpAny_bind (wpAny_letGo ?_)
  refine z_extend S D1 D2 Z hn .none _ (hst.keep D1 D2 Z oth) (oth _ _ (Nat.ne_of_lt Z.z) hZ) hS₂ fun h' tk acc c as hk hS' hl hG hacc => ?_
  exact hR h' tk acc c as (fun b o a1 a2 a3 a4 a5 e => hk b o a1 a2 a3 a4 a5 (oth b o a1 e)) hS' hl hG hacc
theorem z_call {Q : Value → Shared → Prop} (S : ZipSep2 z TI TO i1 i2 fp1 fp2) (D1 : Draws prog w A.in1.in1.in1 i1 fp1 n P1 St1) (D2 : Draws prog w A.in1.in1.in1 i2 fp2 n P2 St2) (Z : ZLow z TI TO i1 i2 s.heap.objs.size fp1 fp2) (hn : n ≤ sizeLine)
    (hTI : IsTupOf2 s.heap TI (.ref i1) (.ref i2)) (hTO : ∃ a1 a2, IsTupOf2 s.heap TO a1 a2) (s1 : St1 0 s.heap) (s2 : St2 0 s.heap) (hZ : IsZip s.heap z TI TO .none)
    (hQ : ∀ h' tk acc c as, (∀ b o, b ≠ z → b ≠ TO → b ≠ i1 → b ≠ i2 → s.heap.get? b = some o → h'.get? b = some o) → h'.get? s.heap.objs.size = some { cls := .type "list", dict := none, data := .seq acc c, slots := #[] } → as.length = n → ZG P1 P2 s.heap.objs.size h' as →
      acc.toList = as.map Value.ref → Q (.ref s.heap.objs.size) { s with heap := h', toks := tk }) :
    wpAny (model prog w) A (call (.type "list") [.ref z]) Q E s := by
  refine callType_codes (Q₁ := fun obj s₁ => obj = .ref s.heap.objs.size ∧ s₁ = { s with heap := s.heap.push { cls := .type "list", data := .seq #[] } }) PySem.F.called_list (PySem.F.typeCall_list_1 _) PySem.F.entry_list_init
    (code_list_new _ ⟨rfl, rfl⟩) fun obj s₁ h₁ => ?_
  obtain ⟨rfl, rfl⟩ := h₁
  have hS : (s.heap.push { cls := .type "list", data := .seq #[] }).get? s.heap.objs.size = some { cls := .type "list", data := .seq #[] } := Heap.get?_push_size _ rfl
  have up : ∀ b o, s.heap.get? b = some o → (s.heap.push { cls := .type "list", data := .seq #[] }).get? b = some o := fun b o e => Heap.get?_push_of_some _ e
  obtain ⟨a1, a2, hTO⟩ := hTO
  refine ⟨⟨_, hS, rfl⟩, PySem.F.args_list_init_2 _ _, z_init (A := A.in1) S D1 D2 Z hn ⟨up _ _ hTI, D1.frame _ _ _ s1 fun b _ o e => up b o e, D2.frame _ _ _ s2 fun b _ o e => up b o e, .inl ⟨up _ _ hZ, a1, a2, up _ _ hTO⟩⟩ (up _ _ hZ) hS fun h' tk acc c as hk hS' hl hG hacc => ?_⟩
  exact ⟨rfl, hQ h' tk acc c as (fun b o a2 a3 a4 a5 e => hk b o (Nat.ne_of_lt (Heap.lt_size e)) a2 a3 a4 a5 (up b o e)) hS' hl hG hacc⟩
end
end BNZ
namespace BNZ
open PySem PySem.Calls PySem.Spec PyProof.Rows L2 BN
/-- the tuples tracked at their addresses -/
def putP : Hp → List Addr → List (V × V) → Hp
  | H, a :: as, p :: ps => putP (upd H a (.tup [p.1, p.2])) as ps
  | H, _, _ => H
theorem putP_off {b : Addr} : ∀ (as : List Addr) (ps : List (V × V)) (H : Hp), b ∉ as → putP H as ps b = H b
  | [], _, _, _ => rfl
  | _ :: _, [], _, _ => rfl
  | a :: as, p :: ps, H, h => by
    show putP (upd H a (.tup [p.1, p.2])) as ps b = H b
    rw [putP_off as ps _ (fun z => h (List.mem_cons_of_mem _ z)), upd_ne (fun z => h (by rw [z]; exact List.mem_cons_self))]
theorem putP_at : ∀ (as : List Addr) (ps : List (V × V)) (H : Hp), as.length = ps.length → as.Nodup → ∀ (j : Nat) (a : Addr), as[j]? = some a → ∃ p, ps[j]? = some p ∧ putP H as ps a = some (.tup [p.1, p.2])
  | [], _, _, _, _, j, a, h => by simp at h
  | _ :: _, [], _, h, _, _, _, _ => by cases h
  | b :: as, p :: ps, H, hl, hn, j, a, h => by
    have hn' := List.nodup_cons.mp hn
    cases j with
    | zero =>
      have e : b = a := by simpa using h
      subst e
      refine ⟨p, rfl, ?_⟩
      show putP (upd H b (.tup [p.1, p.2])) as ps b = _
      rw [putP_off as ps _ hn'.1, upd_same]
    | succ j => exact putP_at as ps (upd H b (.tup [p.1, p.2])) (Nat.succ.inj hl) hn'.2 j a (by simpa using h)
def tLZ (K : PySem.W.Frag) (ta : TA) : TE := fun σ H Q => ta σ H fun vs H1 => ∃ (a b : Addr) (xs ys : List V), vs = [.ref a, .ref b] ∧ (SqL K H1 a xs ∨ SqT K H1 a xs) ∧ (SqL K H1 b ys ∨ SqT K H1 b ys) ∧ xs.length = ys.length ∧
  ∀ (H' : Hp) (D : Addr) (ts : List Addr), Fr c0 H1 H' → H1 D = none → H' D = some (.lst (ts.map V.ref)) → ts.length = xs.length →
    (∀ (j : Nat) (t : Addr), ts[j]? = some t → H1 t = none ∧ t ≠ D ∧ ∃ x y, xs[j]? = some x ∧ ys[j]? = some y ∧ H' t = some (.tup [x, y])) → Q (.ref D) H'
section
variable {X : Cx} {e e2 : Expr} {ta : TA} {p p2 pos pos2 : Pos}
theorem zip_src {pins : List (Addr × Obj)} {σ : L2.St} {H : Hp} {s : Shared} {a : Addr} {xs : List V} (I : Inv X pins σ H s) (hd : X.A.handled = none) (h : SqL X.K H a xs ∨ SqT X.K H a xs) :
    ∃ (its : List Value) (o : Obj) (Hb : Heap → Prop), Vals xs its ∧ xs.length ≤ sizeLine ∧ a < s.heap.objs.size ∧ Begins (.ref a) o Hb ∧ Hb s.heap ∧
      ∀ it, a ≠ it → ∃ St : Nat → Heap → Prop, Draws X.prog X.w X.A.in1.in1.in1 it [it, a] its.length (fun i v => its[i]? = some v) St ∧ ∀ h', (∀ b o, s.heap.get? b = some o → h'.get? b = some o) → h'.get? it = some o → St 0 h' := by
  rcases h with h | h
  · obtain ⟨its, rv, p, hz⟩ := I.list h
    refine ⟨its, _, _, rv, hz, p.lt, begins_list a its.toArray, p.isList, fun it hit => ⟨fun i h => h.IsListIter it a i ∧ h.IsList a its.toArray, ?_, fun h' k e => ⟨⟨_, e, rfl, rfl⟩, p.isList.at fun o q => k a o q⟩⟩⟩
    have D := Draws.list (prog := X.prog) (w := X.w) (A := X.A.in1.in1.in1) hd it a hit its.toArray
    simpa using D
  · obtain ⟨its, rv, p, hz⟩ := I.tuple h
    have ht : s.heap.IsTuple a its.toArray := p
    obtain ⟨o1, ho1, _⟩ := id p
    refine ⟨its, _, _, rv, hz, Heap.lt_size ho1, begins_tuple a its.toArray, ht, fun it hit => ⟨fun i h => h.IsTupleIter it a i ∧ h.IsTuple a its.toArray, ?_, fun h' k e => ⟨⟨_, e, rfl, rfl⟩, ht.at fun o q => k a o q⟩⟩⟩
    have D := Draws.tuple (prog := X.prog) (w := X.w) (A := X.A.in1.in1.in1) hd it a hit its.toArray
    simpa using D
theorem pairs_laid {pins : List (Addr × Obj)} {σ : L2.St} {H : Hp} {s : Shared} {h' : Heap} {tk L : Nat} {xs ys : List V} {us vs : List Value} {acc : Array Value} {c : Nat} {as : List Addr} (I : Inv X pins σ H s) (hz : xs.length ≤ sizeLine) (rx : Vals xs us) (ry : Vals ys vs)
    (hxy : xs.length = ys.length) (hL : s.heap.objs.size ≤ L) (hk : ∀ b o, s.heap.get? b = some o → h'.get? b = some o) (hS : h'.get? L = some { cls := .type "list", dict := none, data := .seq acc c, slots := #[] }) (hl : as.length = us.length)
    (hG : ZG (fun i v => us[i]? = some v) (fun i v => vs[i]? = some v) L h' as) (hacc : acc.toList = as.map Value.ref) :
    ∃ H' : Hp, Fr c0 H H' ∧ H L = none ∧ H' L = some (.lst (as.map V.ref)) ∧ (∀ (j : Nat) (t : Addr), as[j]? = some t → H t = none ∧ t ≠ L ∧ ∃ x y, xs[j]? = some x ∧ ys[j]? = some y ∧ H' t = some (.tup [x, y])) ∧ Inv X pins σ H' { s with heap := h', toks := tk } := by
  have lx := rx.length
  have ly := ry.length
  have hSn : L ∉ as := fun z => Nat.lt_irrefl _ (hG.above _ z)
  have nd : as.Nodup := List.Pairwise.imp (fun {a b} (h : a < b) => Nat.ne_of_lt h) hG.rise
  have new : ∀ t ∈ as, H t = none := fun t ht => I.hok.fresh (Nat.le_trans hL (Nat.le_of_lt (hG.above t ht)))
  have newS : H L = none := I.hok.fresh hL
  have lz : (xs.zip ys).length = xs.length := by rw [List.length_zip]; omega
  have atP := putP_at as (xs.zip ys) (upd H L (.lst (as.map V.ref))) (by omega) nd
  have off : ∀ b, b ∉ as → b ≠ L → putP (upd H L (.lst (as.map V.ref))) as (xs.zip ys) b = H b := fun b h1 h2 => by rw [putP_off as _ _ h1, upd_ne h2]
  have low : ∀ b o, s.heap.get? b = some o → b ∉ as ∧ b ≠ L := fun b o e => ⟨fun z => absurd (Heap.lt_size e) (Nat.not_lt.mpr (Nat.le_trans hL (Nat.le_of_lt (hG.above b z)))), Nat.ne_of_lt (Nat.lt_of_lt_of_le (Heap.lt_size e) hL)⟩
  have kp : ∀ b u, H b = some u → (putP (upd H L (.lst (as.map V.ref))) as (xs.zip ys)) b = some u := fun b u e => by
    rw [off b (fun z => by rw [new b z] at e; cases e) (fun z => by rw [z, newS] at e; cases e)]
    exact e
  have eS : putP (upd H L (.lst (as.map V.ref))) as (xs.zip ys) L = some (.lst (as.map V.ref)) := by rw [putP_off as _ _ hSn, upd_same]
  have pr : ∀ (j : Nat) (t : Addr), as[j]? = some t → ∃ x y, xs[j]? = some x ∧ ys[j]? = some y ∧ putP (upd H L (.lst (as.map V.ref))) as (xs.zip ys) t = some (.tup [x, y]) := fun j t e => by
    obtain ⟨⟨x, y⟩, h1, h2⟩ := atP j t e
    rw [List.getElem?_zip_eq_some] at h1
    exact ⟨x, y, h1.1, h1.2, h2⟩
  refine ⟨putP (upd H L (.lst (as.map V.ref))) as (xs.zip ys), ⟨fun b o e _ => kp b o e, fun b e => ?_⟩, newS, eS, fun j t e => ⟨new t (List.mem_of_getElem? e), fun z => hSn (z ▸ List.mem_of_getElem? e), pr j t e⟩, ?_⟩
  · cases q : H b with
    | none => rfl
    | some o => rw [kp b o q] at e; cases e
  refine I.call' (ch := []) rfl ⟨fun b o q _ _ _ => hk b o q, fun b o q _ _ _ => ⟨o.slots, hk b o q⟩, fun b o q n _ => ?_, fun b o q _ => ⟨o, hk b o q⟩, fun b xs q => kp b _ q, fun b o u q => kp b _ q, fun b ps q => ⟨#[], by rw [kp b _ q]; simp⟩⟩ (fun b u q => ?_) I.bare fun b z => by simp at z
  · obtain ⟨z1, z2⟩ := low b o q
    rw [off b z1 z2]
    exact n
  · by_cases hb : b ∈ as
    · obtain ⟨j, hj⟩ := List.getElem?_of_mem hb
      obtain ⟨x, y, e1, e2, e3⟩ := pr j b hj
      rw [e3] at q
      cases q
      obtain ⟨u1, u2, f1, f2, f3⟩ := hG.pairs j b hj
      obtain ⟨v1, g1, r1⟩ := rx.get e1
      obtain ⟨v2, g2, r2⟩ := ry.get e2
      rw [f1] at g1; rw [f2] at g2
      cases g1; cases g2
      exact ⟨by show 2 ≤ sizeLine; decide, [u1, u2], .cons r1 (.cons r2 .nil), ⟨_, f3, rfl, _, rfl⟩⟩
    · by_cases hb2 : b = L
      · rw [hb2] at q ⊢
        rw [eS] at q
        cases q
        refine ⟨by rw [List.length_map]; omega, acc.toList, c, by rw [hacc]; exact LiI.vals_refs as, ?_⟩
        rw [Array.toArray_toList]
        exact hS
      · rw [off b hb hb2] at q
        exact (I.hok b u q).stay (fun d v _ y => hk d v y) (fun d y => kp d _ y) fun d xs y => kp d _ y
theorem pe_listZip (hc : X.calm = true) (hg : Gl X "list") (hm : X.mg "list" = none) (hgz : Gl X "zip") (hmz : X.mg "zip" = none) (ha : PA X [e, e2] ta)
    (hs : starEach [.Call (.Name "zip" p2) [e, e2] [] pos2] X.env = (false, eval (.Call (.Name "zip" p2) [e, e2] [] pos2) X.env) :: starEach [] X.env := by rfl)
    (hs2 : starEach [e, e2] X.env = (false, eval e X.env) :: starEach [e2] X.env := by rfl) (hpl : (backTo pos2 (starEach [e2] X.env)).any (·.1) = false := by rfl) :
    PE X (.Call (.Name "list" p) [.Call (.Name "zip" p2) [e, e2] [] pos2] [] pos) (tLZ X.K ta) := by
  refine ⟨fun pins s σ H Q I h => ?_⟩
  refine wpAny_Call_Name_kw (ld_blt I hg hm PyProof.Rows.boot_list ?_)
  refine PyProof.Rows.callWith_type1 ?_ hs rfl
  rw [hs]
  show wpAny _ _ (spliced ((false, eval (.Call (.Name "zip" p2) [e, e2] [] pos2) X.env) :: backTo pos (starEach [] X.env))) _ _ s
  refine Calls.spliced_cons ?_
  refine Call_ (ld_blt I hgz hmz PyProof.Rows.boot_zip (PyProof.Rows.callWith_type1 (thn (ha.run pos2 pins s σ H _ I h) fun us s1 ⟨vs, H1, I1, r1, q1⟩ => ?_) hs2 hpl))
  obtain ⟨a, b, xs, ys, ex, hqx, hqy, hlen, q⟩ := q1
  subst ex
  cases r1 with
  | cons r rr =>
    cases rr with
    | cons r' rr =>
      cases rr
      cases r
      cases r'
      have hd := I1.ok.hd hc
      obtain ⟨us, o1, Hb1, rv1, hz1, la, B1, hb1, D1⟩ := zip_src I1 hd hqx
      obtain ⟨ws, o2, Hb2, rv2, hz2, lb, B2, hb2, D2⟩ := zip_src I1 hd hqy
      refine zip_begins2 B1 B2 hb1 hb2 fun h1 z1 z2 z3 z4 z5 hsz hk1 => ?_
      refine Calls.spliced_nil ?_
      obtain ⟨St1, D1, st1⟩ := D1 s1.heap.objs.size (Nat.ne_of_lt la)
      obtain ⟨St2, D2, st2⟩ := D2 (s1.heap.objs.size + 1) (Nat.ne_of_lt (Nat.lt_succ_of_lt lb))
      have hlu : us.length = ws.length := by rw [← rv1.length, ← rv2.length, hlen]
      rw [← hlu] at D2
      have S := zip_sep2 (N := s1.heap.objs.size) (fp1 := [a]) (fp2 := [b]) (fun c hc => by rw [List.mem_singleton.mp hc]; exact la) (fun c hc => by rw [List.mem_singleton.mp hc]; exact lb)
      have I2 : Inv X pins σ H1 { s1 with heap := h1 } := I1.kept (t' := s1.toks) hk1
      have Z : ZLow (s1.heap.objs.size + 4) (s1.heap.objs.size + 2) (s1.heap.objs.size + 3) s1.heap.objs.size (s1.heap.objs.size + 1) h1.objs.size [s1.heap.objs.size, a] [s1.heap.objs.size + 1, b] := by
        have l1 : a < s1.heap.objs.size := la
        have l2 : b < s1.heap.objs.size := lb
        refine ⟨?_, ?_, ?_, ?_, ?_, fun c hc => ?_, fun c hc => ?_⟩
        · rw [hsz]; exact Nat.lt_succ_self _
        · rw [hsz]; exact Nat.add_lt_add_left (by decide) _
        · rw [hsz]; exact Nat.add_lt_add_left (by decide) _
        · rw [hsz]; exact Nat.lt_add_of_pos_right (by decide)
        · rw [hsz]; exact Nat.add_lt_add_left (by decide) _
        · rw [hsz]
          rcases List.mem_cons.mp hc with e | e
          · rw [e]; exact Nat.lt_add_of_pos_right (by decide)
          · rw [List.mem_singleton.mp e]; exact Nat.lt_trans l1 (Nat.lt_add_of_pos_right (by decide))
        · rw [hsz]
          rcases List.mem_cons.mp hc with e | e
          · rw [e]; exact Nat.add_lt_add_left (by decide) _
          · rw [List.mem_singleton.mp e]; exact Nat.lt_trans l2 (Nat.lt_add_of_pos_right (by decide))
      refine z_call (s := { s1 with heap := h1 }) (A := X.A) S D1 D2 Z (by rw [← rv1.length]; exact hz1) z2 ⟨_, _, z3⟩ (st1 h1 hk1 z4) (st2 h1 hk1 z5) z1 fun h2 tk acc c as hk hS hl hG hacc => ?_
      have hk2 : ∀ b o, s1.heap.get? b = some o → h2.get? b = some o := fun b o e => by
        have lt : b < s1.heap.objs.size := Heap.lt_size e
        have ne : ∀ k, b ≠ s1.heap.objs.size + k := fun k => Nat.ne_of_lt (Nat.lt_of_lt_of_le lt (Nat.le_add_right _ k))
        exact hk b o (ne 4) (ne 3) (ne 0) (ne 1) (hk1 b o e)
      obtain ⟨H', f, n, e1, e2, J⟩ := pairs_laid (tk := tk) I1 hz1 rv1 rv2 hlen (by rw [hsz]; exact Nat.le_add_right _ _) hk2 hS hl hG hacc
      refine ⟨.ref _, H', J, rfl, q H' _ as f n e1 ?_ e2⟩
      rw [hl, ← rv1.length]
end
end BNZ
namespace BN
open PySem L2 PyProof.Rows
/-! ### names -/
abbrev SMALLs : Str := "abcdefghijklmnopqrstuvwxyz"
def smallB (c : Nat) : Bool := decide (97 ≤ c) && decide (c ≤ 122)
theorem small_iff (c : Nat) : decide (c ∈ SMALLs.cps.toList) = smallB c := by
  have e : SMALLs.cps.toList = List.range' 97 26 := by decide +kernel
  rw [e]
  unfold smallB
  rw [← Bool.decide_and]
  refine decide_eq_decide.mpr ?_
  rw [List.mem_range'_1]
  omega
theorem all_filt {α : Type} (f : α → Bool) : ∀ l : List α, l.all f = (l.filter fun c => !f c).isEmpty
  | [] => rfl
  | a :: r => by
    have ih := all_filt f r
    by_cases h : f a <;> simp [h]
    simpa using ih
theorem wordB_eq (x : Str) : wordB x = (decide (1 ≤ x.length) && decide (x.length ≤ 4) && (x.cps.toList.filter fun c => !smallB c).isEmpty) := by
  unfold wordB
  rw [← all_filt, Array.all_toList]
  rfl
def badS (l : List Nat) : List Str := (l.filter fun c => !smallB c).map fun c => ⟨#[c]⟩
theorem badS_more {l : List Nat} {i c : Nat} (h : l[i]? = some c) : badS (l.take (i + 1)) = badS (l.take i) ++ (if smallB c = true then [] else [⟨#[c]⟩]) := by
  unfold badS
  rw [take_more h, List.filter_append, List.map_append]
  congr 1
  by_cases e : smallB c = true <;> simp [e]
/-- the signs of a text that are no small letters: [sign for sign in x if sign not in SMALL] == [] -/
theorem lc_bad {K : PySem.W.Frag} {x : Str} {σ : L2.St} {H : Hp} {Q : VK} {i j : Nat} (hi : σ[i]? = some (some (.str x))) (hj : j < σ.length) (hij : i ≠ j) (hl : x.length ≤ 1000) (hx : PyData.strOk x = true)
    (k : ∀ H', Fr c0 H H' → Q (.bl (x.cps.toList.filter fun c => !smallB c).isEmpty) H') :
    tOp (rEqD K) (tLc (iStr (tVar i)) (gName j) (tTest (tOp rNotInS (tVar j) (tC (.str SMALLs)))) (tVar j) [j]) (tLst tNil) σ H Q := by
  refine ⟨_, hi, x, rfl, fun D hD => ?_⟩
  refine lc_str (Pv := fun n H' => H' D = some (.lst ((badS (x.cps.toList.take n)).map V.str)) ∧ Fr c0 H H') ⟨upd_same, Fr.new hD⟩ (fun n c H' hc p => ⟨wipe1 _ _ _, ?_⟩) fun H' p => ?_
  · have hjv : ((wipe σ [j]).set j (some (.str ⟨#[c]⟩)))[j]? = some (some (.str ⟨#[c]⟩)) := by
      show ((σ.set j none).set j _)[j]? = _
      rw [List.set_set]
      simp [hj]
    have hc' : x.cps.toList[n]? = some c := by rw [Array.getElem?_toList]; exact hc
    have hm := badS_more hc'
    have hlen : n < x.length := at_lt hc'
    refine ⟨_, hjv, c, SMALLs, rfl, rfl, _, rfl, ?_⟩
    rw [small_iff]
    by_cases e : smallB c = true
    · rw [e]
      refine ifF rfl ?_
      rw [e] at hm
      refine ⟨?_, p.2⟩
      rw [hm]; simpa using p.1
    · have e' : smallB c = false := by simpa using e
      rw [e']
      refine ifT rfl ?_
      rw [e'] at hm
      refine ⟨_, hjv, _, p.1, ?_, ?_, p.2.fresh hD⟩
      · refine Nat.lt_of_le_of_lt (m := 1000) ?_ (small1000 (Nat.le_refl _))
        unfold badS
        rw [List.length_map, List.length_map]
        have h1 := List.length_filter_le (fun c => !smallB c) (x.cps.toList.take n)
        rw [List.length_take] at h1
        omega
      · rw [hm, List.map_append]
        exact upd_same
  · have eT : x.cps.toList.take x.cps.size = x.cps.toList := by rw [← Array.length_toList, List.take_length]
    rw [eT] at p
    refine ⟨one_sz (Nat.zero_le _), fun q hq => ⟨.list ((badS x.cps.toList).map .str), .list [], .lst (SqL.of ?_) (DpAll.strs _), .lst (SqL.of upd_same) .nil, shaped_strs fun y hy => ?_, rfl, ?_⟩⟩
    · rw [upd_ne (ne_of_none p.1 hq)]; exact p.1
    · obtain ⟨c, hc, rfl⟩ := List.mem_map.mp hy
      have hc := (List.mem_filter.mp hc).1
      unfold PyData.strOk at hx ⊢
      rw [← Array.all_toList, List.all_eq_true] at hx
      simpa using hx c hc
    · rw [eqv_lists_nil]
      have : ((badS x.cps.toList).map PyData.str).isEmpty = (x.cps.toList.filter fun c => !smallB c).isEmpty := by
        unfold badS
        cases (x.cps.toList.filter fun c => !smallB c) <;> rfl
      rw [this]
      exact k _ (p.2.trans (Fr.new hq))
def spIsWord (K : PySem.W.Frag) : Sp := fun vs H Q _ => ∃ x : Str, vs = [.str x] ∧ x.length ≤ 1000 ∧ PyData.strOk x = true ∧ ∀ H', Fr c0 H H' → Q (.bl (wordB x)) H'
def t_is_word (K : PySem.W.Frag) : TS :=
  (tRet (tAndV (tChain oLe oLe (tC (.int 1)) (tCB rLenStr (tCons (tVar 0) tNil)) (tC (.int 4))) (tOp (rEqD K) (tLc (iStr (tVar 0)) (gName 1) (tTest (tOp rNotInS (tVar 1) (tC (.str "abcdefghijklmnopqrstuvwxyz")))) (tVar 1) [1]) (tLst tNil))))
theorem pure_is_word {K : PySem.W.Frag} (vs : List V) (H : Hp) (Q : VK) (E : XK) (h : spIsWord K vs H Q E) : t_is_word K { nx := fun _ H' => Q .non H', rt := Q } (start ["word", "sign"] vs) H := by
  obtain ⟨x, rfl, hl, hx, k⟩ := h
  rw [wordB_eq] at k
  refine ⟨_, rfl, x, rfl, one_sz hl, 1, _, rfl, rfl, _, rfl, ?_⟩
  by_cases h1 : (1 : Int) ≤ (x.length : Nat)
  · refine ifT (decide_eq_true h1) ⟨_, _, rfl, rfl, _, rfl, ?_⟩
    have e1 : decide (1 ≤ x.length) = true := decide_eq_true (by omega)
    rw [e1, Bool.true_and] at k
    by_cases h4 : ((x.length : Nat) : Int) ≤ 4
    · refine ifT (decide_eq_true h4) ?_
      have e4 : decide (x.length ≤ 4) = true := decide_eq_true (by omega)
      rw [e4, Bool.true_and] at k
      exact lc_bad rfl (by show 1 < 2; decide) (by decide) hl hx k
    · have e4 : decide (x.length ≤ 4) = false := decide_eq_false (by omega)
      rw [e4] at k
      exact ifF (decide_eq_false h4) (k H (Fr.refl _))
  · have e1 : decide (1 ≤ x.length) = false := decide_eq_false (by omega)
    rw [e1] at k
    refine ifF (decide_eq_false h1) ⟨_, rfl, ?_⟩
    exact ifF rfl (k H (Fr.refl _))
/-! ### several names -/
theorem nodup_len {α : Type} [DecidableEq α] {L xs : List α} (hL : L.Nodup) (h : ∀ k, k ∈ L ↔ k ∈ xs) : L.length = xs.length ↔ xs.Nodup := by
  constructor
  · intro e
    have key : ∀ (xs L : List α), L.Nodup → (∀ k, k ∈ L → k ∈ xs) → xs.length ≤ L.length → xs.Nodup := by
      intro xs
      induction xs with
      | nil => intro _ _ _ _; exact List.nodup_nil
      | cons a r ih =>
        intro L hL hs hl
        by_cases ha : a ∈ L
        · have h1 := hL.erase a
          have h2 : ∀ k, k ∈ L.erase a → k ∈ r := fun k hk => by
            have := (List.Nodup.mem_erase_iff hL).mp hk
            rcases List.mem_cons.mp (hs k this.2) with e | e
            · exact absurd e this.1
            · exact e
          have h3 := List.length_erase_of_mem ha
          rw [List.length_cons] at hl
          have hr := ih (L.erase a) h1 h2 (by omega)
          refine List.nodup_cons.mpr ⟨fun har => ?_, hr⟩
          have : L ⊆ r := fun k hk => by
            rcases List.mem_cons.mp (hs k hk) with e | e
            · subst e; exact har
            · exact e
          have := hL.length_le_of_subset this
          omega
        · have : L ⊆ r := fun k hk => by
            rcases List.mem_cons.mp (hs k hk) with e | e
            · subst e; exact absurd hk ha
            · exact e
          have := hL.length_le_of_subset this
          rw [List.length_cons] at hl
          omega
    exact key xs L hL (fun k hk => (h k).mp hk) (by omega)
  · intro hx
    have h1 := hL.length_le_of_subset fun k hk => (h k).mp hk
    have h2 := hx.length_le_of_subset fun k hk => (h k).mpr hk
    omega
def wordsB (xs : List Str) (m : Int) : Bool := decide ((xs.length : Int) ≤ m) && (decide xs.Nodup && (xs.map wordB).all id)
def spAreWords (K : PySem.W.Frag) : Sp := fun vs H Q _ => ∃ (a : Addr) (xs : List Str) (m : Int), vs = [.ref a, .int m] ∧ SqT K H a (xs.map V.str) ∧ xs.length ≤ 1000 ∧ (∀ x ∈ xs, x.length ≤ 1000 ∧ PyData.strOk x = true) ∧ ∀ H', Fr c0 H H' → Q (.bl (wordsB xs m)) H'
theorem bools_inv {K : PySem.W.Frag} {H : Hp} : ∀ {bs : List Bool} {vs : List V}, DpAll K H vs (bs.map PyData.bool) → vs = bs.map V.bl
  | [], _, h => by cases h; rfl
  | x :: r, _, h => by
    cases h with
    | cons h1 h2 => cases h1; rw [bools_inv h2]; rfl
def t_are_words (K : PySem.W.Frag) (P : Program) (w : World) : TS :=
  (tRet (tAndV (tOp oLe (tCB (rLenSq K) (tCons (tVar 0) tNil)) (tVar 1)) (tAndV (tOp rEq (tCB (BNS.rLenSetS P w) (tCons (tCB (BNS.rSetS K P w) (tCons (tVar 0) tNil)) tNil)) (tCB (rLenSq K) (tCons (tVar 0) tNil))) (tCB (rAll K) (tCons (tLc (iTup K (tVar 0)) (gName 2) tYes (tCall (spIsWord K) [] C8.E0 (tCons (tVar 2) tNil)) [2]) tNil)))))
theorem pure_are_words {K : PySem.W.Frag} {P : Program} {w : World} (vs : List V) (H : Hp) (Q : VK) (E : XK) (h : spAreWords K vs H Q E) : t_are_words K P w { nx := fun _ H' => Q .non H', rt := Q } (start ["words", "most", "word"] vs) H := by
  obtain ⟨a, xs, m, rfl, hT, hl, hx, k⟩ := h
  refine ⟨_, rfl, a, _, rfl, .inr hT, _, rfl, _, _, rfl, rfl, _, rfl, ?_⟩
  rw [List.length_map]
  unfold wordsB at k
  by_cases hm : (xs.length : Int) ≤ m
  · refine ifT (decide_eq_true hm) ?_
    rw [decide_eq_true hm, Bool.true_and] at k
    refine ⟨_, rfl, a, xs, rfl, .inr hT, by omega, fun p hp => ⟨p, xs, rfl, upd_same, fun L hL hk => ?_⟩⟩
    have f1 : Fr c0 H (upd H p (BNS.SetSO P w p xs)) := Fr.new hp
    refine ⟨_, rfl, a, _, rfl, .inr (f1.sqT hT), rfl, _, rfl, ?_⟩
    rw [List.length_map]
    have en := nodup_len hL hk
    by_cases hn : xs.Nodup
    · have e := en.mpr hn
      refine ifT (by rw [e]; exact decide_eq_true rfl) ?_
      rw [decide_eq_true hn, Bool.true_and] at k
      refine ⟨_, rfl, a, rfl, ⟨_, f1.sqT hT⟩, ?_⟩
      refine lcG_tup (K := K) (a := a) (xs := xs.map V.str) (C := c0) (I := fun _ => True) (Good := fun i d => ∃ q, xs[i]? = some q ∧ d = .bool (wordB q)) (f1.sqT hT) (fun _ _ _ _ _ => trivial) (fun _ _ _ z => z) trivial (by rw [List.length_map]; omega) (fun i v hi H' f' _ Q' hQ => ?_) fun D2 vs ds H2 hD2 e2 da2 dl dg f2 _ => ?_
      · obtain ⟨q, hq, rfl⟩ := map_at hi
        have := hx q (List.mem_of_getElem? hq)
        exact ⟨_, rfl, q, rfl, this.1, this.2, fun H3 f3 => hQ (.bool (wordB q)) _ _ ⟨q, hq, rfl⟩ rfl (.bl _) f3 trivial⟩
      · have hds : ds = (xs.map wordB).map PyData.bool := by
          rw [List.map_map]
          refine eq_map_of_at (by rw [dl, List.length_map]) fun k d hk => ?_
          obtain ⟨q, hq, e⟩ := (dg k d hk).1
          exact ⟨q, hq, e⟩
        rw [hds] at da2
        exact ⟨D2, _, rfl, SqL.of (by rw [← bools_inv da2]; exact e2), k _ (f1.trans f2)⟩
    · have e : L.length ≠ xs.length := fun z => hn (en.mp z)
      refine ifF (decide_eq_false fun z => e (by have := V.int.inj z; omega)) ?_
      rw [decide_eq_false hn] at k
      exact k _ f1
  · rw [decide_eq_false hm] at k
    exact ifF (decide_eq_false hm) (k _ (Fr.refl _))
end BN
namespace BN
open PySem L2 PyProof.Rows
/-! ### inner_of of the program -/
def t_pinner (K : PySem.W.Frag) : TS :=
  (tSeq (tAsg (tOp (rIxT K) (tVar 0) (tC (.int 0))) (gName 1))
    (tSeq (tIfS (tTest (tOp (rIn K false) (tVar 1) (tTup (tCons (tC (.str "add")) (tCons (tC (.str "less")) (tCons (tC (.str "if")) tNil)))))) (tRet (tCB (rListSq K) (tCons (tSl (rSlT K) (tVar 0) (tPart (tC (.int 1))) tNoPart) tNil))) tNext)
    (tSeq (tIfS (tTest (tOp rEq (tVar 1) (tC (.str "say")))) (tRet (tLst (tCons (tOp (rIxT K) (tVar 0) (tC (.int 1))) tNil))) tNext)
    (tSeq (tIfS (tTest (tOp rEq (tVar 1) (tC (.str "let")))) (tRet (tCB (rListSq K) (tCons (tSl (rSlT K) (tVar 0) (tPart (tC (.int 2))) tNoPart) tNil))) tNext)
    (tSeq (tIfS (tTest (tOp rEq (tVar 1) (tC (.str "fun")))) (tRet (tCB (rListSq K) (tCons (tSl (rSlT K) (tVar 0) (tPart (tC (.int 3))) tNoPart) tNil))) tNext)
    (tRet (tIf (tTest (tOp rEq (tVar 1) (tC (.str "call")))) (tCB (rListSq K) (tCons (tOp (rIxT K) (tVar 0) (tC (.int 2))) tNil)) (tLst tNil))))))))
theorem pure_pinner {K : PySem.W.Frag} (vs : List V) (H : Hp) (Q : VK) (E : XK) (h : spInner K vs H Q E) : t_pinner K { nx := fun _ H' => Q .non H', rt := Q } (start ["part", "word"] vs) H := by
  obtain ⟨v, p, rfl, hd, k⟩ := h
  have f3 : ∀ {t1 : Addr}, H t1 = none → Fr c0 H (upd H t1 (.tup [.str "add", .str "less", .str "if"])) := fun h => Fr.new h
  cases p with
  | num n =>
    obtain ⟨t, rfl, hT⟩ := inv_num hd
    refine ⟨_, rfl, t, _, _, _, rfl, rfl, hT, rfl, _, rfl, one_sz (by show 3 ≤ 1000; decide), fun t1 h1 => ⟨t1, _, rfl, .inr (SqT.of upd_same), rfl, rfl, _, rfl, ifF (by decide +kernel) ?_⟩⟩
    have g1 := f3 h1
    refine ⟨_, rfl, rfl, _, rfl, ifF (by decide +kernel) ?_⟩
    refine ⟨_, rfl, rfl, _, rfl, ifF (by decide +kernel) ?_⟩
    refine ⟨_, rfl, rfl, _, rfl, ifF (by decide +kernel) ?_⟩
    refine ⟨_, rfl, rfl, _, rfl, ifF (by decide +kernel) ?_⟩
    exact ⟨one_sz (Nat.zero_le _), fun l hl => inn_end k g1 .nil l hl⟩
  | name n =>
    obtain ⟨t, rfl, hT⟩ := inv_name hd
    refine ⟨_, rfl, t, _, _, _, rfl, rfl, hT, rfl, _, rfl, one_sz (by show 3 ≤ 1000; decide), fun t1 h1 => ⟨t1, _, rfl, .inr (SqT.of upd_same), rfl, rfl, _, rfl, ifF (by decide +kernel) ?_⟩⟩
    have g1 := f3 h1
    refine ⟨_, rfl, rfl, _, rfl, ifF (by decide +kernel) ?_⟩
    refine ⟨_, rfl, rfl, _, rfl, ifF (by decide +kernel) ?_⟩
    refine ⟨_, rfl, rfl, _, rfl, ifF (by decide +kernel) ?_⟩
    refine ⟨_, rfl, rfl, _, rfl, ifF (by decide +kernel) ?_⟩
    exact ⟨one_sz (Nat.zero_le _), fun l hl => inn_end k g1 .nil l hl⟩
  | say a =>
    obtain ⟨t, va, rfl, hT, da⟩ := inv_say hd
    refine ⟨_, rfl, t, _, _, _, rfl, rfl, hT, rfl, _, rfl, one_sz (by show 3 ≤ 1000; decide), fun t1 h1 => ⟨t1, _, rfl, .inr (SqT.of upd_same), rfl, rfl, _, rfl, ifF (by decide +kernel) ?_⟩⟩
    have g1 := f3 h1
    refine ⟨_, rfl, rfl, _, rfl, ifT (by decide +kernel) ?_⟩
    refine ⟨_, rfl, t, _, _, _, rfl, rfl, g1.sqT hT, rfl, one_sz (by show 1 ≤ 1000; decide), fun l hl => ?_⟩
    exact inn_end k g1 (.cons (Dp.fr g1 _ _ (tup_enc a) da) .nil) l hl
  | add a b =>
    obtain ⟨t, va, vb, rfl, hT, da, db⟩ := inv_add hd
    refine ⟨_, rfl, t, _, _, _, rfl, rfl, hT, rfl, _, rfl, one_sz (by show 3 ≤ 1000; decide), fun t1 h1 => ⟨t1, _, rfl, .inr (SqT.of upd_same), rfl, rfl, _, rfl, ifT (by decide +kernel) ?_⟩⟩
    have g1 := f3 h1
    refine ⟨_, rfl, _, rfl, t, _, rfl, g1.sqT hT, nocut 1 (by decide) (by simp), fun t2 h2 => ?_⟩
    have g2 := g1.trans (Fr.new (o := .tup [va, vb]) h2)
    exact ⟨t2, [va, vb], rfl, .inr (SqT.of upd_same), inn_end k g2 (.cons (Dp.fr g2 _ _ (tup_enc a) da) (.cons (Dp.fr g2 _ _ (tup_enc b) db) .nil))⟩
  | less a b =>
    obtain ⟨t, va, vb, rfl, hT, da, db⟩ := inv_less hd
    refine ⟨_, rfl, t, _, _, _, rfl, rfl, hT, rfl, _, rfl, one_sz (by show 3 ≤ 1000; decide), fun t1 h1 => ⟨t1, _, rfl, .inr (SqT.of upd_same), rfl, rfl, _, rfl, ifT (by decide +kernel) ?_⟩⟩
    have g1 := f3 h1
    refine ⟨_, rfl, _, rfl, t, _, rfl, g1.sqT hT, nocut 1 (by decide) (by simp), fun t2 h2 => ?_⟩
    have g2 := g1.trans (Fr.new (o := .tup [va, vb]) h2)
    exact ⟨t2, [va, vb], rfl, .inr (SqT.of upd_same), inn_end k g2 (.cons (Dp.fr g2 _ _ (tup_enc a) da) (.cons (Dp.fr g2 _ _ (tup_enc b) db) .nil))⟩
  | ite c a b =>
    obtain ⟨t, vc, va, vb, rfl, hT, dc, da, db⟩ := inv_ite hd
    refine ⟨_, rfl, t, _, _, _, rfl, rfl, hT, rfl, _, rfl, one_sz (by show 3 ≤ 1000; decide), fun t1 h1 => ⟨t1, _, rfl, .inr (SqT.of upd_same), rfl, rfl, _, rfl, ifT (by decide +kernel) ?_⟩⟩
    have g1 := f3 h1
    refine ⟨_, rfl, _, rfl, t, _, rfl, g1.sqT hT, nocut 1 (by decide) (by simp), fun t2 h2 => ?_⟩
    have g2 := g1.trans (Fr.new (o := .tup [vc, va, vb]) h2)
    exact ⟨t2, [vc, va, vb], rfl, .inr (SqT.of upd_same), inn_end k g2 (.cons (Dp.fr g2 _ _ (tup_enc c) dc) (.cons (Dp.fr g2 _ _ (tup_enc a) da) (.cons (Dp.fr g2 _ _ (tup_enc b) db) .nil)))⟩
  | lt x a b =>
    obtain ⟨t, va, vb, rfl, hT, da, db⟩ := inv_lt hd
    refine ⟨_, rfl, t, _, _, _, rfl, rfl, hT, rfl, _, rfl, one_sz (by show 3 ≤ 1000; decide), fun t1 h1 => ⟨t1, _, rfl, .inr (SqT.of upd_same), rfl, rfl, _, rfl, ifF (by decide +kernel) ?_⟩⟩
    have g1 := f3 h1
    refine ⟨_, rfl, rfl, _, rfl, ifF (by decide +kernel) ?_⟩
    refine ⟨_, rfl, rfl, _, rfl, ifT (by decide +kernel) ?_⟩
    refine ⟨_, rfl, _, rfl, t, _, rfl, g1.sqT hT, nocut 2 (by decide) (by simp), fun t2 h2 => ?_⟩
    have g2 := g1.trans (Fr.new (o := .tup [va, vb]) h2)
    exact ⟨t2, [va, vb], rfl, .inr (SqT.of upd_same), inn_end k g2 (.cons (Dp.fr g2 _ _ (tup_enc a) da) (.cons (Dp.fr g2 _ _ (tup_enc b) db) .nil))⟩
  | fn f ps a b =>
    obtain ⟨t, tp, va, vb, rfl, hT, _, da, db⟩ := inv_fn hd
    refine ⟨_, rfl, t, _, _, _, rfl, rfl, hT, rfl, _, rfl, one_sz (by show 3 ≤ 1000; decide), fun t1 h1 => ⟨t1, _, rfl, .inr (SqT.of upd_same), rfl, rfl, _, rfl, ifF (by decide +kernel) ?_⟩⟩
    have g1 := f3 h1
    refine ⟨_, rfl, rfl, _, rfl, ifF (by decide +kernel) ?_⟩
    refine ⟨_, rfl, rfl, _, rfl, ifF (by decide +kernel) ?_⟩
    refine ⟨_, rfl, rfl, _, rfl, ifT (by decide +kernel) ?_⟩
    refine ⟨_, rfl, _, rfl, t, _, rfl, g1.sqT hT, nocut 3 (by decide) (by simp), fun t2 h2 => ?_⟩
    have g2 := g1.trans (Fr.new (o := .tup [va, vb]) h2)
    exact ⟨t2, [va, vb], rfl, .inr (SqT.of upd_same), inn_end k g2 (.cons (Dp.fr g2 _ _ (tup_enc a) da) (.cons (Dp.fr g2 _ _ (tup_enc b) db) .nil))⟩
  | call f as =>
    obtain ⟨t, ta, ws, rfl, hT, hA, da⟩ := inv_call hd
    refine ⟨_, rfl, t, _, _, _, rfl, rfl, hT, rfl, _, rfl, one_sz (by show 3 ≤ 1000; decide), fun t1 h1 => ⟨t1, _, rfl, .inr (SqT.of upd_same), rfl, rfl, _, rfl, ifF (by decide +kernel) ?_⟩⟩
    have g1 := f3 h1
    refine ⟨_, rfl, rfl, _, rfl, ifF (by decide +kernel) ?_⟩
    refine ⟨_, rfl, rfl, _, rfl, ifF (by decide +kernel) ?_⟩
    refine ⟨_, rfl, rfl, _, rfl, ifF (by decide +kernel) ?_⟩
    refine ⟨_, rfl, rfl, _, rfl, ifT (by decide +kernel) ?_⟩
    exact ⟨_, rfl, t, _, _, _, rfl, rfl, g1.sqT hT, rfl, ta, ws, rfl, .inr (g1.sqT hA), inn_end k g1 (Dp.frs g1 _ _ (tupDs_P _) da)⟩
end BN
namespace BN
open PySem L2 PyProof.Rows
/-! ### the program's Check -/
def cI (p : Addr) : CP := fun a _ => a = p
theorem Fr.hide {C C' : CP} {H H1 H2 : Hp} (f : Fr C' H H1) (g : Fr C H1 H2) (h : ∀ a o o', H a = some o → C a o' → C' a o) : Fr C' H H2 :=
  ⟨fun a o e n => g.keep a o (f.keep a o e n) fun z => n ⟨h a o o e z.1, z.2⟩, fun a e => f.free a (g.free a e)⟩
theorem Fr.hide0 {p : Addr} {H H1 H2 : Hp} (f : Fr c0 H H1) (hp : H p = none) (g : Fr (cI p) H1 H2) : Fr c0 H H2 :=
  f.hide g fun a o o' e z => by
    have : a = p := z
    subst this; rw [hp] at e; cases e
theorem Fr.setI {p : Addr} {H : Hp} {o o' : HO} (hp : H p = some o) (hm : Mut (some o)) : Fr (cI p) H (upd H p o') := Fr.set hp rfl hm
def fl1 (n : Nat) : List (Str × V) := [("place", .int (n : Int))]
theorem fl1_get (n : Nat) : (fl1 n).lookup ("place" : Str) = some (.int (n : Int)) := by simp [fl1, List.lookup]
theorem fl1_no (n : Nat) {m : Str} (h : ¬ m = "place") : (fl1 n).lookup m = none := by
  have e : (m == ("place" : Str)) = false := by simpa using h
  simp only [fl1, List.lookup, e]
theorem fl1_put (n m : Nat) : putF "place" (.int (m : Int)) (fl1 n) = fl1 m := by
  show (if ("place" : Str) = "place" then _ else _) = _
  rw [if_pos rfl]; rfl
structure ChkC (K : PySem.W.Frag) (C : Addr) : Prop where
  cl : Cls K C
  nP : NoAttr K C "place"
def spChkInit (C : Addr) : Sp := fun vs H Q _ => ∃ (p dx : Addr), vs = [.ref p] ∧ H p = some (.ins C dx []) ∧ Q .non (upd H p (.ins C dx (fl1 0)))
def t_chk_init (K : PySem.W.Frag) : TS :=
  (sFld K (tVar 0) (tC (.int 0)) "place")
theorem pure_chk_init {K : PySem.W.Frag} {C : Addr} (T : ChkC K C) (vs : List V) (H : Hp) (Q : VK) (E : XK) (h : spChkInit C vs H Q E) : t_chk_init K { nx := fun _ H' => Q .non H', rt := Q } (start ["self"] vs) H := by
  obtain ⟨p, dx, rfl, hp, k⟩ := h
  exact ⟨_, rfl, p, C, dx, [], rfl, hp, T.cl, T.nP, (by show 0 < 1000; decide), k⟩
def spMust : Sp := fun vs H Q _ => ∃ (p : V) (b : Bool) (n : Int), vs = [p, .bl b, .int n] ∧ b = true ∧ n < 200 ∧ Q .non H
def t_must  : TS :=
  (tIfS (tOr (tNot (tB (tVar 1))) (tTest (tOp oGe (tVar 2) (tC (.int 200))))) tNever tNext)
theorem pure_must (vs : List V) (H : Hp) (Q : VK) (E : XK) (h : spMust vs H Q E) : t_must { nx := fun _ H' => Q .non H', rt := Q } (start ["self", "good", "place"] vs) H := by
  obtain ⟨p, b, n, rfl, rfl, hn, k⟩ := h
  refine ⟨_, rfl, _, rfl, ?_⟩
  refine ifF rfl ⟨_, rfl, _, _, rfl, rfl, _, rfl, ?_⟩
  exact ifF (decide_eq_false (by omega)) k
def Part.word : Part → Str
  | .num _ => "num" | .name _ => "name" | .add _ _ => "add" | .less _ _ => "less" | .ite _ _ _ => "if" | .say _ => "say" | .lt _ _ _ => "let" | .fn _ _ _ _ => "fun" | .call _ _ => "call"
def Part.ar : Part → Nat
  | .num _ => 2 | .name _ => 2 | .add _ _ => 3 | .less _ _ => 3 | .ite _ _ _ => 4 | .say _ => 2 | .lt _ _ _ => 4 | .fn _ _ _ _ => 5 | .call _ _ => 3
/-- PARTS, at dP -/
structure PTab (K : PySem.W.Frag) (w : World) (dP : Addr) (es : Array DictEntry) (n : Nat) : Prop where
  kd : KDict K w dP es n
  at_ : ∀ p : Part, ∃ u, PySem.W.nsIn K dP p.word = some (some u) ∧ RelV (.int (p.ar : Int)) u
theorem PTab.dct {K : PySem.W.Frag} {w : World} {dP : Addr} {es : Array DictEntry} {n : Nat} (T : PTab K w dP es n) (p : Part) : KDct K w dP p.word (.int (p.ar : Int)) := by
  obtain ⟨u, h1, h2⟩ := T.at_ p
  exact ⟨es, n, u, T.kd.at_, T.kd.lit, h1, h2⟩
theorem inv_head {K : PySem.W.Frag} {H : Hp} {v : V} : ∀ {p : Part}, Dp K H v p.enc → ∃ t xs, v = .ref t ∧ SqT K H t (.str p.word :: xs) ∧ xs.length + 1 = p.ar
  | .num n, h => by obtain ⟨t, e, hT⟩ := inv_num h; exact ⟨t, _, e, hT, rfl⟩
  | .name n, h => by obtain ⟨t, e, hT⟩ := inv_name h; exact ⟨t, _, e, hT, rfl⟩
  | .add a b, h => by obtain ⟨t, _, _, e, hT, _⟩ := inv_add h; exact ⟨t, _, e, hT, rfl⟩
  | .less a b, h => by obtain ⟨t, _, _, e, hT, _⟩ := inv_less h; exact ⟨t, _, e, hT, rfl⟩
  | .ite c a b, h => by obtain ⟨t, _, _, _, e, hT, _⟩ := inv_ite h; exact ⟨t, _, e, hT, rfl⟩
  | .say a, h => by obtain ⟨t, _, e, hT, _⟩ := inv_say h; exact ⟨t, _, e, hT, rfl⟩
  | .lt x a b, h => by obtain ⟨t, _, _, e, hT, _⟩ := inv_lt h; exact ⟨t, _, e, hT, rfl⟩
  | .fn f ps a b, h => by obtain ⟨t, _, _, _, e, hT, _⟩ := inv_fn h; exact ⟨t, _, e, hT, rfl⟩
  | .call f as, h => by obtain ⟨t, _, _, e, hT, _⟩ := inv_call h; exact ⟨t, _, e, hT, rfl⟩
/-! ### a part's data may be compared -/
section
open PyData
mutual
theorem can_enc : ∀ (p : Part) (ns : List Str) (fs : FE0), p.ok ns fs → (∀ x ∈ ns, wordB x = true) → (∀ f n, fs f = some n → wordB f = true) → PyData.canLay0 p.enc = true
  | .num n, ns, fs, h, hn, hf => by simp only [Part.enc, canLay0, canLayAll0]; decide +kernel
  | .name x, ns, fs, h, hn, hf => by
    have := strOk_word (hn x (by simpa only [Part.ok] using h))
    simp only [Part.enc, canLay0, canLayAll0, this]; decide +kernel
  | .add a b, ns, fs, h, hn, hf => by
    simp only [Part.ok] at h
    simp only [Part.enc, canLay0, canLayAll0, can_enc a ns fs h.1 hn hf, can_enc b ns fs h.2 hn hf]; decide +kernel
  | .less a b, ns, fs, h, hn, hf => by
    simp only [Part.ok] at h
    simp only [Part.enc, canLay0, canLayAll0, can_enc a ns fs h.1 hn hf, can_enc b ns fs h.2 hn hf]; decide +kernel
  | .ite c a b, ns, fs, h, hn, hf => by
    simp only [Part.ok] at h
    simp only [Part.enc, canLay0, canLayAll0, can_enc c ns fs h.1 hn hf, can_enc a ns fs h.2.1 hn hf, can_enc b ns fs h.2.2 hn hf]; decide +kernel
  | .say a, ns, fs, h, hn, hf => by
    simp only [Part.ok] at h
    simp only [Part.enc, canLay0, canLayAll0, can_enc a ns fs h hn hf]; decide +kernel
  | .lt x a b, ns, fs, h, hn, hf => by
    simp only [Part.ok] at h
    have hx : ∀ y ∈ ns ++ [x], wordB y = true := fun y hy => by
      rcases List.mem_append.mp hy with e | e
      · exact hn y e
      · rw [List.mem_singleton.mp e]; exact h.1
    simp only [Part.enc, canLay0, canLayAll0, strOk_word h.1, can_enc a ns fs h.2.1 hn hf, can_enc b _ fs h.2.2 hx hf]; decide +kernel
  | .fn f ps b r, ns, fs, h, hn, hf => by
    simp only [Part.ok] at h
    obtain ⟨h1, _, _, h4, h5, h6⟩ := h
    have hx : ∀ y ∈ ns ++ ps, wordB y = true := fun y hy => by
      rcases List.mem_append.mp hy with e | e
      · exact hn y e
      · exact h4 y e
    have hg : ∀ g n, putN fs f ps.length g = some n → wordB g = true := fun g n e => by
      unfold putN at e
      by_cases q : g = f
      · rw [q]; exact h1
      · rw [if_neg q] at e; exact hf g n e
    simp only [Part.enc, canLay0, canLayAll0, strOk_word h1, canStrs ps (fun x hx => strOk_word (h4 x hx)), can_enc b _ fs h5 hx hf, can_enc r ns _ h6 hn hg]; decide +kernel
  | .call f as, ns, fs, h, hn, hf => by
    simp only [Part.ok] at h
    simp only [Part.enc, canLay0, canLayAll0, strOk_word (hf f _ h.1), can_encs as ns fs h.2 hn hf]; decide +kernel
theorem can_encs : ∀ (as : Parts) (ns : List Str) (fs : FE0), as.ok ns fs → (∀ x ∈ ns, wordB x = true) → (∀ f n, fs f = some n → wordB f = true) → PyData.canLayAll0 as.encs = true
  | .nil, ns, fs, h, hn, hf => by simp only [Parts.encs, canLayAll0]
  | .cons p r, ns, fs, h, hn, hf => by
    simp only [Parts.ok] at h
    simp only [Parts.encs, canLayAll0, can_enc p ns fs h.1 hn hf, can_encs r ns fs h.2 hn hf]; decide +kernel
end
mutual
theorem depth_enc : ∀ p : Part, p.enc.depth ≤ 2 * p.dep
  | .num n => by simp [Part.enc, PyData.depth, PyData.depthAll, Part.dep]
  | .name n => by simp [Part.enc, PyData.depth, PyData.depthAll, Part.dep]
  | .add a b => by have := depth_enc a; have := depth_enc b; simp [Part.enc, PyData.depth, PyData.depthAll, Part.dep]; omega
  | .less a b => by have := depth_enc a; have := depth_enc b; simp [Part.enc, PyData.depth, PyData.depthAll, Part.dep]; omega
  | .ite c a b => by have := depth_enc a; have := depth_enc b; have := depth_enc c; simp [Part.enc, PyData.depth, PyData.depthAll, Part.dep]; omega
  | .say a => by have := depth_enc a; simp [Part.enc, PyData.depth, PyData.depthAll, Part.dep]; omega
  | .lt x a b => by have := depth_enc a; have := depth_enc b; simp [Part.enc, PyData.depth, PyData.depthAll, Part.dep]; omega
  | .fn f ps b r => by have := depth_enc b; have := depth_enc r; have := depStrs ps; have := dep_pos b; simp [Part.enc, PyData.depth, PyData.depthAll, Part.dep]; omega
  | .call f as => by have := depth_encs as; simp [Part.enc, PyData.depth, PyData.depthAll, Part.dep]; omega
theorem depth_encs : ∀ as : Parts, PyData.depthAll as.encs ≤ 2 * as.dep
  | .nil => by simp [Parts.encs, PyData.depthAll]
  | .cons p r => by have := depth_enc p; have := depth_encs r; simp [Parts.encs, PyData.depthAll, Parts.dep]; omega
end
end
theorem shaped_enc {p : Part} {ns : List Str} {fs : FE0} (h : p.ok ns fs) (hn : ∀ x ∈ ns, wordB x = true) (hf : ∀ f n, fs f = some n → wordB f = true) (hd : p.dep ≤ 32) : SeqAt.shaped p.enc = true := by
  unfold SeqAt.shaped
  rw [Bool.and_eq_true, decide_eq_true_eq]
  have := depth_enc p
  exact ⟨can_enc p ns fs h hn hf, by omega⟩
end BN
namespace BN
open PySem L2 PyProof.Rows
/-! ### look -/
abbrev FRel (kvs : List (Key × V)) (fs : FE0) : Prop := ∀ f : Str, valV kvs (Sum.inr f) = (fs f).map fun n => V.int (n : Int)
structure LookOk (n : Nat) (pt : Part) (names : List Str) (fs : FE0) (kvs : List (Key × V)) (pl : Nat) : Prop where
  rel : FRel kvs fs
  ok : pt.ok names fs
  nw : ∀ x ∈ names, wordB x = true
  fw : ∀ f m, fs f = some m → wordB f = true
  dn : pt.dep ≤ n
  d32 : pt.dep ≤ 32
  wid : pt.wid ≤ 1000
  nl : names.length ≤ 12 * pl + 3
  fl : kvs.length ≤ pl
  sz : pl + pt.size ≤ 200
structure LookAt (K : PySem.W.Frag) (H : Hp) (v : V) (an af : Addr) (pt : Part) (names : List Str) (kvs : List (Key × V)) : Prop where
  v : Dp K H v pt.enc
  n : H an = some (.lst (names.map V.str))
  f : H af = some (.dK kvs)
theorem LookAt.fr {K : PySem.W.Frag} {C : CP} {H H' : Hp} {v : V} {an af : Addr} {pt : Part} {names : List Str} {kvs : List (Key × V)} (L : LookAt K H v an af pt names kvs) (f : Fr C H H') (h1 : ∀ o, ¬ C an o) (h2 : ∀ o, ¬ C af o) : LookAt K H' v an af pt names kvs :=
  ⟨Dp.fr f _ _ (tup_enc pt) L.v, f.at L.n (h1 _), f.at L.f (h2 _)⟩
def spLook (K : PySem.W.Frag) (C : Addr) (n : Nat) : Sp := fun vs H Q _ => ∃ (p dx : Addr) (v : V) (an af : Addr) (pt : Part) (names : List Str) (fs : FE0) (kvs : List (Key × V)) (pl : Nat), vs = [.ref p, v, .ref an, .ref af] ∧
  H p = some (.ins C dx (fl1 pl)) ∧ LookAt K H v an af pt names kvs ∧ LookOk n pt names fs kvs pl ∧ ∀ H', Fr (cI p) H H' → H' p = some (.ins C dx (fl1 (pl + pt.size))) → Q .non H'
def flatP : Part → Bool
  | .lt _ _ _ => false | .fn _ _ _ _ => false | _ => true
theorem parts_in : ∀ {as : Parts} {ns : List Str} {fs : FE0}, as.ok ns fs → ∀ q ∈ as.list, q.ok ns fs
  | .nil, _, _, _, q, h => by simp [Parts.list] at h
  | .cons p r, ns, fs, h, q, hq => by
    simp only [Parts.ok] at h
    rcases List.mem_cons.mp (by simpa [Parts.list] using hq : q ∈ p :: r.list) with rfl | e
    · exact h.1
    · exact parts_in h.2 q e
theorem flat_in {p : Part} {ns : List Str} {fs : FE0} (hp : flatP p = true) (h : p.ok ns fs) : ∀ q ∈ p.inner, q.ok ns fs := by
  intro q hq
  cases p <;> simp only [Part.inner, List.mem_cons, List.not_mem_nil, or_false] at hq <;> simp only [Part.ok] at h
  · rcases hq with rfl | rfl
    · exact h.1
    · exact h.2
  · rcases hq with rfl | rfl
    · exact h.1
    · exact h.2
  · rcases hq with rfl | rfl | rfl
    · exact h.1
    · exact h.2.1
    · exact h.2.2
  · subst hq; exact h
  · simp [flatP] at hp
  · simp [flatP] at hp
  · exact parts_in h.2 q hq
theorem sizesL_app : ∀ a b : List Part, sizesL (a ++ b) = sizesL a + sizesL b
  | [], b => by simp [sizesL]
  | p :: r, b => by simp only [List.cons_append, sizesL, sizesL_app r b]; omega
theorem sizesL_more {l : List Part} {i : Nat} {q : Part} (h : l[i]? = some q) : sizesL (l.take (i + 1)) = sizesL (l.take i) + q.size := by
  rw [take_more h, sizesL_app]; simp [sizesL]
theorem sizesL_le (l : List Part) (i : Nat) : sizesL (l.take i) ≤ sizesL l := by
  have h := sizesL_app (l.take i) (l.drop i)
  rw [List.take_append_drop] at h
  omega
theorem flatV_strs (l : List Str) : (l.map V.str).all flatV = true := by
  rw [List.all_map, List.all_eq_true]
  intro x _; rfl
theorem inV_strs {x : Str} {l : List Str} (h : x ∈ l) : inV (.str x) (l.map V.str) = true := by
  unfold inV
  rw [List.any_map, List.any_eq_true]
  exact ⟨x, h, by simp [eqV]⟩
def t_look (K : PySem.W.Frag) (w : World) (dP cChk : Addr) (n : Nat) : TS :=
  (tSeq (tAsg (tFld K (tVar 0) "place") (gName 4))
    (tSeq (sFldAug K (tVar 0) (tC (.int 1)) L2.rAdd "place")
    (tSeq (tAsg (tIf (tTest (tOp (rNeD K) (tVar 1) (tTup tNil))) (tOp (rIxT K) (tVar 1) (tC (.int 0))) (tC (.str ""))) (gName 5))
    (tSeq (tDrop (tMeth cChk "must" spMust [] C8.E0 (tVar 0) (tCons (tAndV (tOp (rInW K dP) (tVar 5) (tC (.ref dP))) (tOp rEq (tCB (rLenSq K) (tCons (tVar 1) tNil)) (tOp (rIxD K w) (tC (.ref dP)) (tVar 5)))) (tCons (tVar 4) tNil))))
    (tIfS (tTest (tOp rEq (tVar 5) (tC (.str "num")))) (tDrop (tMeth cChk "must" spMust [] C8.E0 (tVar 0) (tCons (tChain oLe oLe (tC (.int 0)) (tOp (rIxT K) (tVar 1) (tC (.int 1))) (tC (.int 99))) (tCons (tVar 4) tNil)))) (tIfS (tTest (tOp rEq (tVar 5) (tC (.str "name")))) (tDrop (tMeth cChk "must" spMust [] C8.E0 (tVar 0) (tCons (tOp (rIn K false) (tOp (rIxT K) (tVar 1) (tC (.int 1))) (tVar 2)) (tCons (tVar 4) tNil)))) (tIfS (tTest (tOp rEq (tVar 5) (tC (.str "let")))) (tSeq (tDrop (tMeth cChk "must" spMust [] C8.E0 (tVar 0) (tCons (tCall (spIsWord K) [] C8.E0 (tCons (tOp (rIxT K) (tVar 1) (tC (.int 1))) tNil)) (tCons (tVar 4) tNil))))
    (tSeq (tDrop (tMeth cChk "look" (spLook K cChk n) [] C8.E0 (tVar 0) (tCons (tOp (rIxT K) (tVar 1) (tC (.int 2))) (tCons (tVar 2) (tCons (tVar 3) tNil)))))
    (tDrop (tMeth cChk "look" (spLook K cChk n) [] C8.E0 (tVar 0) (tCons (tOp (rIxT K) (tVar 1) (tC (.int 3))) (tCons (tOp rCat (tVar 2) (tLst (tCons (tOp (rIxT K) (tVar 1) (tC (.int 1))) tNil))) (tCons (tVar 3) tNil))))))) (tIfS (tTest (tOp rEq (tVar 5) (tC (.str "fun")))) (tSeq (tDrop (tMeth cChk "must" spMust [] C8.E0 (tVar 0) (tCons (tAndV (tCall (spIsWord K) [] C8.E0 (tCons (tOp (rIxT K) (tVar 1) (tC (.int 1))) tNil)) (tCall (spAreWords K) [] C8.E0 (tCons (tOp (rIxT K) (tVar 1) (tC (.int 2))) (tCons (tC (.int 12)) tNil)))) (tCons (tVar 4) tNil))))
    (tSeq (tDrop (tMeth cChk "look" (spLook K cChk n) [] C8.E0 (tVar 0) (tCons (tOp (rIxT K) (tVar 1) (tC (.int 3))) (tCons (tOp rCat (tVar 2) (tCB (rListSq K) (tCons (tOp (rIxT K) (tVar 1) (tC (.int 2))) tNil))) (tCons (tVar 3) tNil)))))
    (tSeq (tAsg (tCB rDictD (tCons (tVar 3) tNil)) (gName 6))
    (tSeq (sDPut (tVar 6) (tOp (rIxT K) (tVar 1) (tC (.int 1))) (tCB (rLenSq K) (tCons (tOp (rIxT K) (tVar 1) (tC (.int 2))) tNil)))
    (tDrop (tMeth cChk "look" (spLook K cChk n) [] C8.E0 (tVar 0) (tCons (tOp (rIxT K) (tVar 1) (tC (.int 4))) (tCons (tVar 2) (tCons (tVar 6) tNil))))))))) (tSeq (tIfS (tTest (tOp rEq (tVar 5) (tC (.str "call")))) (tDrop (tMeth cChk "must" spMust [] C8.E0 (tVar 0) (tCons (tOp rEq (tDGet2 (tVar 3) (tOp (rIxT K) (tVar 1) (tC (.int 1))) (tUn oNeg (tC (.int 1)))) (tCB (rLenSq K) (tCons (tOp (rIxT K) (tVar 1) (tC (.int 2))) tNil))) (tCons (tVar 4) tNil)))) tNext)
    (tFor (iList K (tCall (spInner K) [] C8.E0 (tCons (tVar 1) tNil))) (gName 7) (tDrop (tMeth cChk "look" (spLook K cChk n) [] C8.E0 (tVar 0) (tCons (tVar 7) (tCons (tVar 2) (tCons (tVar 3) tNil)))))))))))))))
theorem look_tail {K : PySem.W.Frag} {cChk : Addr} {n : Nat} {T : ChkC K cChk} {pt : Part} {p dx an af : Addr} {v : V} {names : List Str} {fs : FE0} {kvs : List (Key × V)} {pl : Nat} {H1 : Hp} {Q R : VK} {σ : L2.St}
    (hσ : σ = [some (.ref p), some v, some (.ref an), some (.ref af), some (.int pl), some (.str pt.word), none, none]) (hp : H1 p = some (.ins cChk dx (fl1 (pl + 1)))) (L : LookAt K H1 v an af pt names kvs) (O : LookOk (n + 1) pt names fs kvs pl) (hf : flatP pt = true)
    (k : ∀ H', Fr (cI p) H1 H' → H' p = some (.ins cChk dx (fl1 (pl + pt.size))) → Q .non H') :
    (tFor (iList K (tCall (spInner K) [] C8.E0 (tCons (tVar 1) tNil))) (gName 7) (tDrop (tMeth cChk "look" (spLook K cChk n) [] C8.E0 (tVar 0) (tCons (tVar 7) (tCons (tVar 2) (tCons (tVar 3) tNil)))))) { nx := fun _ H' => Q .non H', rt := R } σ H1 := by
  subst hσ
  have npn : ∀ {H : Hp}, LookAt K H v an af pt names kvs → H p = some (.ins cChk dx (fl1 (pl + 1))) → (∀ o, ¬ cI p an o) ∧ ∀ o, ¬ cI p af o := fun {H} L hp => by
    refine ⟨fun o z => ?_, fun o z => ?_⟩
    · have e : an = p := z
      have := L.n; rw [e, hp] at this; cases this
    · have e : af = p := z
      have := L.f; rw [e, hp] at this; cases this
  refine ⟨_, rfl, v, pt, rfl, L.v, fun D ws H2 f1 hD0 e da => ⟨D, rfl, ⟨ws, SqL.of e⟩, ?_⟩⟩
  have hp2 := f1.at hp (fun z => z)
  have L2 := L.fr f1 (fun _ z => z) (fun _ z => z)
  have nn := npn L2 hp2
  have nD : ∀ o, ¬ cI p D o := fun o z => by
    have e' : D = p := z
    rw [e', hp2] at e; cases e
  refine for_list (K := K) (a := D) (xs := ws) (fun i σ H' => ∃ u, σ = [some (.ref p), some v, some (.ref an), some (.ref af), some (.int pl), some (.str pt.word), none, u] ∧ Fr (cI p) H2 H' ∧ H' p = some (.ins cChk dx (fl1 (pl + 1 + sizesL (pt.inner.take i)))))
    ⟨none, rfl, Fr.refl _, by simpa [sizesL] using hp2⟩ (fun i σ H' _ ⟨_, _, f', _⟩ => SqL.of (f'.at e (nD _))) ?_ ?_
  · rintro i x σ H' hi ⟨u, rfl, f', hp'⟩
    obtain ⟨dd, hdd, Dx⟩ := da.getV hi
    obtain ⟨q, hq, rfl⟩ := map_at hdd
    have hm := List.mem_of_getElem? hq
    have L3 := L2.fr f' nn.1 nn.2
    have s1 := sizesL_more hq
    have s2 := sizesL_le pt.inner (i + 1)
    have s3 := size_inner pt
    have h1 := dep_inner pt q hm
    have h2 := wid_inner pt q hm
    have o1 := O.dn; have o2 := O.d32; have o3 := O.wid; have o4 := O.nl; have o5 := O.fl; have o6 := O.sz
    refine ⟨_, rfl, p, dx, _, rfl, hp', fl1_no _ (by decide +kernel), _, rfl, _, rfl, _, rfl, p, dx, x, an, af, q, names, fs, kvs, pl + 1 + sizesL (pt.inner.take i), rfl, hp', ⟨Dp.fr f' _ _ (tup_enc q) Dx, L3.n, L3.f⟩, ⟨O.rel, flat_in hf O.ok q hm, O.nw, O.fw, by omega, by omega, by omega, by omega, by omega, by omega⟩, fun H3 f3 hp3 => ?_⟩
    refine ⟨_, rfl, f'.trans f3, ?_⟩
    rw [s1, ← Nat.add_assoc]; exact hp3
  · rintro σ H' ⟨u, rfl, f', hp'⟩
    have hl : ws.length = pt.inner.length := by rw [da.len, List.length_map]
    rw [hl, List.take_length] at hp'
    refine k _ ((Fr.of0 f1).trans f') ?_
    rw [size_inner, ← Nat.add_assoc]; exact hp'
theorem words_ok {ps : List Str} {m : Int} (hm : (ps.length : Int) ≤ m) (hn : ps.Nodup) (hw : ∀ x ∈ ps, wordB x = true) : wordsB ps m = true := by
  unfold wordsB
  rw [decide_eq_true hm, decide_eq_true hn, Bool.true_and, Bool.true_and, List.all_map, List.all_eq_true]
  exact fun x hx => hw x hx
theorem word_len {x : Str} (h : wordB x = true) : x.length ≤ 4 := by
  unfold wordB at h
  simp only [Bool.and_eq_true, decide_eq_true_eq] at h
  exact h.1.2
theorem FRel.put {kvs : List (Key × V)} {fs : FE0} (h : FRel kvs fs) (f : Str) (m : Nat) : FRel (putK kvs (Sum.inr f) (.int (m : Int))) (putN fs f m) := fun g => by
  rw [valV_put]
  unfold putN
  by_cases e : g = f
  · subst e; simp
  · rw [if_neg (by simpa using e), if_neg e]; exact h g
theorem putK_le (kvs : List (Key × V)) (k : Key) (v : V) : (putK kvs k v).length ≤ kvs.length + 1 := by
  unfold putK
  split
  · rw [List.length_map]; omega
  · rw [List.length_append]; simp
theorem pure_look {K : PySem.W.Frag} {w : World} {dP cChk : Addr} {es : Array DictEntry} {n0 n : Nat} (T : ChkC K cChk) (PT : PTab K w dP es n0) (vs : List V) (H : Hp) (Q : VK) (E : XK) (h : spLook K cChk (n + 1) vs H Q E) :
    t_look K w dP cChk n { nx := fun _ H' => Q .non H', rt := Q } (start ["self", "part", "names", "funs", "place", "word", "known", "one"] vs) H := by
  obtain ⟨p, dx, v, an, af, pt, names, fs, kvs, pl, rfl, hp, L, O, k⟩ := h
  have o1 := O.dn; have o2 := O.d32; have o3 := O.wid; have o4 := O.nl; have o5 := O.fl; have o6 := O.sz
  have sp := size_pos pt
  obtain ⟨t, xs, rfl, hT, hx⟩ := inv_head L.v
  -- place
  refine ⟨_, rfl, p, cChk, dx, _, _, rfl, hp, T.cl, T.nP, fl1_get _, ?_⟩
  refine ⟨_, rfl, p, cChk, dx, _, _, rfl, hp, T.cl, T.nP, fl1_get _, _, _, rfl, rfl, dx, _, hp, (by show 1 < 1000; decide), ?_⟩
  have e1 : putF "place" (.int ((pl : Int) + 1)) (fl1 pl) = fl1 (pl + 1) := fl1_put pl (pl + 1)
  rw [e1]
  have f1 : Fr (cI p) H (upd H p (.ins cChk dx (fl1 (pl + 1)))) := Fr.setI hp trivial
  have hp1 : (upd H p (.ins cChk dx (fl1 (pl + 1)))) p = some (.ins cChk dx (fl1 (pl + 1))) := upd_same
  have nan : ∀ o, ¬ cI p an o := fun o z => by
    have e : an = p := z
    have := L.n; rw [e, hp] at this; cases this
  have naf : ∀ o, ¬ cI p af o := fun o z => by
    have e : af = p := z
    have := L.f; rw [e, hp] at this; cases this
  have L1 := L.fr f1 nan naf
  generalize (upd H p (.ins cChk dx (fl1 (pl + 1)))) = H1 at f1 hp1 L1 ⊢
  -- word
  refine ⟨_, rfl, one_sz (Nat.zero_le _), fun q hq => ⟨pt.enc, .tuple [], Dp.fr (Fr.new (C := c0) hq) _ _ (tup_enc pt) L1.v, .tup (SqT.of upd_same) .nil, shaped_enc O.ok O.nw O.fw (by omega), by decide +kernel, ?_⟩⟩
  have ne : (!PyData.eqv pt.enc (.tuple [])) = true := by cases pt <;> simp [Part.enc, PyData.eqv, PyData.eqvAll]
  rw [ne]
  have f2 : Fr c0 H1 (upd H1 q (.tup [])) := Fr.new hq
  have hp2 := f2.at hp1 (fun z => z)
  have L2 := L1.fr f2 (fun _ z => z) (fun _ z => z)
  have hT2 := f2.sqT (f1.sqT hT)
  have f12 := f1.trans (Fr.of0 f2)
  generalize (upd H1 q (.tup [])) = H2 at f2 hp2 L2 hT2 f12 ⊢
  refine ⟨_, rfl, ifT rfl ⟨_, rfl, t, _, _, _, rfl, rfl, hT2, atI_nat (j := 0) rfl, ?_⟩⟩
  -- the first must
  obtain ⟨u, hu, ru⟩ := PT.at_ pt
  refine ⟨_, rfl, p, dx, _, rfl, hp2, fl1_no _ (by decide +kernel), _, rfl, _, _, rfl, rfl, hu, _, rfl, ifT rfl ⟨_, rfl, t, _, rfl, .inr hT2, _, rfl, dP, _, _, rfl, rfl, PT.dct pt, rfl, _, rfl, ?_⟩⟩
  refine ⟨.ref p, _, (pl : Int), rfl, ?_, by omega, ?_⟩
  · rw [List.length_cons, hx]; exact decide_eq_true rfl
  -- the law's cases
  have fin : ∀ H', Fr (cI p) H2 H' → H' p = some (.ins cChk dx (fl1 (pl + pt.size))) → Q .non H' := fun H' f' hp' => k H' (f12.trans f') hp'
  have tail := fun (hf : flatP pt = true) (R : VK) => look_tail (T := T) (σ := [some (.ref p), some (.ref t), some (.ref an), some (.ref af), some (.int pl), some (.str pt.word), none, none]) (R := R) rfl hp2 L2 O hf fin
  cases pt with
  | num m =>
    obtain ⟨t', e, hT3⟩ := inv_num L2.v
    cases e
    have hm : 0 ≤ m ∧ m ≤ 99 := by simpa only [Part.ok] using O.ok
    refine ⟨_, rfl, rfl, _, rfl, ifT (by kernel_rfl) ?_⟩
    refine ⟨_, rfl, p, dx, _, rfl, hp2, fl1_no _ (by decide +kernel), _, rfl, t, _, _, _, rfl, rfl, hT3, rfl, _, _, rfl, rfl, _, rfl, ifT (decide_eq_true hm.1) ⟨_, _, rfl, rfl, _, rfl, ?_⟩⟩
    exact ⟨.ref p, _, (pl : Int), rfl, decide_eq_true hm.2, by omega, fin _ (Fr.refl _) hp2⟩
  | name x =>
    obtain ⟨t', e, hT3⟩ := inv_name L2.v
    cases e
    have hm : x ∈ names := by simpa only [Part.ok] using O.ok
    refine ⟨_, rfl, rfl, _, rfl, ifF (by kernel_rfl) ?_⟩
    refine ⟨_, rfl, rfl, _, rfl, ifT (by kernel_rfl) ?_⟩
    refine ⟨_, rfl, p, dx, _, rfl, hp2, fl1_no _ (by decide +kernel), _, rfl, t, _, _, _, rfl, rfl, hT3, rfl, _, rfl, an, _, rfl, .inl (SqL.of L2.n), rfl, flatV_strs _, _, rfl, ?_⟩
    exact ⟨.ref p, _, (pl : Int), rfl, inV_strs hm, by omega, fin _ (Fr.refl _) hp2⟩
  | lt x a b =>
    obtain ⟨t', va, vb, e, hT3, da, db⟩ := inv_lt L2.v
    cases e
    have ho := O.ok
    simp only [Part.ok] at ho
    simp only [Part.dep] at o1 o2
    simp only [Part.wid] at o3
    simp only [Part.size] at o6 fin
    refine ⟨_, rfl, rfl, _, rfl, ifF (by kernel_rfl) ?_⟩
    refine ⟨_, rfl, rfl, _, rfl, ifF (by kernel_rfl) ?_⟩
    refine ⟨_, rfl, rfl, _, rfl, ifT (by kernel_rfl) ?_⟩
    have wl := word_len ho.1
    refine ⟨_, rfl, p, dx, _, rfl, hp2, fl1_no _ (by decide +kernel), _, rfl, t, _, _, _, rfl, rfl, hT3, rfl, x, rfl, by omega, strOk_word ho.1, fun H3 f3 => ⟨_, rfl, .ref p, _, (pl : Int), rfl, ho.1, by omega, ?_⟩⟩
    have hp3 := f3.at hp2 (fun z => z)
    have L3 := L2.fr f3 (fun _ z => z) (fun _ z => z)
    refine ⟨_, rfl, p, dx, _, rfl, hp3, fl1_no _ (by decide +kernel), _, rfl, t, _, _, _, rfl, rfl, f3.sqT hT3, rfl, _, rfl, _, rfl, p, dx, va, an, af, a, names, fs, kvs, pl + 1, rfl, hp3, ⟨Dp.fr f3 _ _ (tup_enc a) da, L3.n, L3.f⟩, ⟨O.rel, ho.2.1, O.nw, O.fw, by omega, by omega, by omega, by omega, by omega, by omega⟩, fun H4 f4 hp4 => ?_⟩
    have L4 := L3.fr f4 nan naf
    have f24 := (Fr.of0 (C := cI p) f3).trans f4
    refine ⟨_, rfl, p, dx, _, rfl, hp4, fl1_no _ (by decide +kernel), _, rfl, t, _, _, _, rfl, rfl, f24.sqT hT3, rfl, _, rfl, _, rfl, t, _, _, _, rfl, rfl, f24.sqT hT3, rfl, one_sz (by show 1 ≤ 1000; decide), fun l hl => ?_⟩
    have f5 : Fr c0 H4 (upd H4 l (.lst [.str x])) := Fr.new hl
    have L5 := L4.fr f5 (fun _ z => z) (fun _ z => z)
    refine ⟨an, l, _, _, rfl, rfl, L5.n, upd_same, Nat.le_of_lt (Nat.lt_of_le_of_lt (m := 10000) (by rw [List.length_map]; show names.length + 1 ≤ 10000; omega) (by rw [sizeLine_eq]; decide)), fun m hm => ?_⟩
    have f6 : Fr c0 (upd H4 l (.lst [.str x])) (upd (upd H4 l (.lst [.str x])) m (.lst (names.map V.str ++ [.str x]))) := Fr.new hm
    have f56 := f5.trans f6
    have L6 := L5.fr f6 (fun _ z => z) (fun _ z => z)
    have hn' : (upd (upd H4 l (.lst [.str x])) m (.lst (names.map V.str ++ [.str x]))) m = some (.lst ((names ++ [x]).map V.str)) := by rw [upd_same, List.map_append]; rfl
    have sa := size_pos a
    refine ⟨_, rfl, p, dx, vb, m, af, b, names ++ [x], fs, kvs, pl + 1 + a.size, rfl, f56.at hp4 (fun z => z), ⟨Dp.fr (f24.trans (Fr.of0 f56)) _ _ (tup_enc b) db, hn', L6.f⟩, ⟨O.rel, ho.2.2, fun y hy => ?_, O.fw, by omega, by omega, by omega, ?_, by omega, by omega⟩, fun H7 f7 hp7 => ?_⟩
    · rcases List.mem_append.mp hy with e | e
      · exact O.nw y e
      · rw [List.mem_singleton.mp e]; exact ho.1
    · rw [List.length_append]; show names.length + 1 ≤ _; omega
    · refine fin _ ((f24.trans (Fr.of0 f56)).trans f7) ?_
      have e : pl + (1 + (a.size + b.size)) = pl + 1 + a.size + b.size := by omega
      rw [e]; exact hp7
  | fn f ps a b =>
    obtain ⟨t', tp, va, vb, e, hT3, hTp, da, db⟩ := inv_fn L2.v
    cases e
    have ho := O.ok
    simp only [Part.ok] at ho
    obtain ⟨h1, h2, h3, h4, h5, h6⟩ := ho
    simp only [Part.dep] at o1 o2
    simp only [Part.wid] at o3
    simp only [Part.size] at o6 fin
    refine ⟨_, rfl, rfl, _, rfl, ifF (by kernel_rfl) ?_⟩
    refine ⟨_, rfl, rfl, _, rfl, ifF (by kernel_rfl) ?_⟩
    refine ⟨_, rfl, rfl, _, rfl, ifF (by kernel_rfl) ?_⟩
    refine ⟨_, rfl, rfl, _, rfl, ifT (by kernel_rfl) ?_⟩
    have wl := word_len h1
    refine ⟨_, rfl, p, dx, _, rfl, hp2, fl1_no _ (by decide +kernel), _, rfl, t, _, _, _, rfl, rfl, hT3, rfl, f, rfl, by omega, strOk_word h1, fun H3 f3 => ⟨_, rfl, ifT h1 ?_⟩⟩
    have hp3 := f3.at hp2 (fun z => z)
    have L3 := L2.fr f3 (fun _ z => z) (fun _ z => z)
    refine ⟨_, rfl, t, _, _, _, rfl, rfl, f3.sqT hT3, rfl, tp, ps, 12, rfl, f3.sqT hTp, by omega, fun x hx => ⟨by have := word_len (h4 x hx); omega, strOk_word (h4 x hx)⟩, fun H4 f4 => ⟨_, rfl, .ref p, _, (pl : Int), rfl, words_ok (by omega) h3 h4, by omega, ?_⟩⟩
    have hp4 := f4.at hp3 (fun z => z)
    have L4 := L3.fr f4 (fun _ z => z) (fun _ z => z)
    have f24 := f3.trans f4
    -- the body
    refine ⟨_, rfl, p, dx, _, rfl, hp4, fl1_no _ (by decide +kernel), _, rfl, t, _, _, _, rfl, rfl, f24.sqT hT3, rfl, _, rfl, _, rfl, t, _, _, _, rfl, rfl, f24.sqT hT3, rfl, tp, _, rfl, .inr (f24.sqT hTp), fun l hl => ?_⟩
    have f5 : Fr c0 H4 (upd H4 l (.lst (ps.map V.str))) := Fr.new hl
    have L5 := L4.fr f5 (fun _ z => z) (fun _ z => z)
    refine ⟨an, l, _, _, rfl, rfl, L5.n, upd_same, Nat.le_of_lt (Nat.lt_of_le_of_lt (m := 10000) (by rw [List.length_map, List.length_map]; omega) (by rw [sizeLine_eq]; decide)), fun m hm => ?_⟩
    have f6 : Fr c0 (upd H4 l (.lst (ps.map V.str))) (upd (upd H4 l (.lst (ps.map V.str))) m (.lst (names.map V.str ++ ps.map V.str))) := Fr.new hm
    have f56 := f5.trans f6
    have L6 := L5.fr f6 (fun _ z => z) (fun _ z => z)
    have hn' : (upd (upd H4 l (.lst (ps.map V.str))) m (.lst (names.map V.str ++ ps.map V.str))) m = some (.lst ((names ++ ps).map V.str)) := by rw [upd_same, List.map_append]
    have f26 := f24.trans f56
    refine ⟨_, rfl, p, dx, va, m, af, a, names ++ ps, fs, kvs, pl + 1, rfl, f56.at hp4 (fun z => z), ⟨Dp.fr f26 _ _ (tup_enc a) da, hn', L6.f⟩, ⟨O.rel, h5, fun y hy => ?_, O.fw, by omega, by omega, by omega, ?_, by omega, by omega⟩, fun H7 f7 hp7 => ?_⟩
    · rcases List.mem_append.mp hy with e | e
      · exact O.nw y e
      · exact h4 y e
    · rw [List.length_append]; omega
    have f27 := (Fr.of0 (C := cI p) f26).trans f7
    have L7 := L2.fr f27 nan naf
    -- known
    refine ⟨_, rfl, af, kvs, rfl, .inl L7.f, fun kn hk => ?_⟩
    have f8 : Fr c0 H7 (upd H7 kn (.dK kvs)) := Fr.new hk
    have L8 := L7.fr f8 (fun _ z => z) (fun _ z => z)
    have hT8 := (f27.trans (Fr.of0 f8)).sqT hT3
    refine ⟨_, rfl, t, _, _, _, rfl, rfl, hT8, rfl, tp, _, rfl, .inr ((f27.trans (Fr.of0 f8)).sqT hTp), _, rfl, _, rfl, t, _, _, _, rfl, rfl, hT8, rfl, kn, _, rfl, DPut.k (k := Sum.inr f) upd_same (small1000 (by omega)), ?_⟩
    rw [List.length_map]
    have f9 : Fr c0 H7 (upd (upd H7 kn (.dK kvs)) kn (.dK (putK kvs (Sum.inr f) (.int (ps.length : Int))))) := f8.fresh hk
    have f29 := f27.trans (Fr.of0 f9)
    have L9 := L7.fr f9 (fun _ z => z) (fun _ z => z)
    have hp9 := f9.at hp7 (fun z => z)
    have sa := size_pos a
    have pk := putK_le kvs (Sum.inr f) (.int (ps.length : Int))
    refine ⟨_, rfl, p, dx, _, rfl, hp9, fl1_no _ (by decide +kernel), _, rfl, t, _, _, _, rfl, rfl, f29.sqT hT3, rfl, _, rfl, _, rfl, p, dx, vb, an, kn, b, names, _, _, pl + 1 + a.size, rfl, hp9, ⟨Dp.fr f29 _ _ (tup_enc b) db, L9.n, upd_same⟩, ⟨O.rel.put f ps.length, h6, O.nw, fun g m e => ?_, by omega, by omega, by omega, by omega, by omega, by omega⟩, fun H10 f10 hp10 => ?_⟩
    · unfold putN at e
      by_cases q : g = f
      · rw [q]; exact h1
      · rw [if_neg q] at e; exact O.fw g m e
    · refine fin _ (f29.trans f10) ?_
      have e : pl + (1 + (a.size + b.size)) = pl + 1 + a.size + b.size := by omega
      rw [e]; exact hp10
  | call f as =>
    obtain ⟨t', ta, ws, e, hT3, hA, da⟩ := inv_call L2.v
    cases e
    have ho := O.ok
    simp only [Part.ok] at ho
    refine ⟨_, rfl, rfl, _, rfl, ifF (by kernel_rfl) ?_⟩
    refine ⟨_, rfl, rfl, _, rfl, ifF (by kernel_rfl) ?_⟩
    refine ⟨_, rfl, rfl, _, rfl, ifF (by kernel_rfl) ?_⟩
    refine ⟨_, rfl, rfl, _, rfl, ifF (by kernel_rfl) ?_⟩
    refine ⟨_, rfl, rfl, _, rfl, ifT (by kernel_rfl) ?_⟩
    refine ⟨_, rfl, p, dx, _, rfl, hp2, fl1_no _ (by decide +kernel), _, rfl, af, rfl, .inl ⟨kvs, .inl L2.f⟩, _, rfl, t, _, _, _, rfl, rfl, hT3, rfl, _, rfl, _, DGet.k (k := Sum.inr f) L2.f, _, rfl, t, _, _, _, rfl, rfl, hT3, rfl, ta, _, rfl, .inr hA, ?_⟩
    have hl : ws.length = as.len := by rw [da.len, List.length_map, Parts.list_len]
    rw [O.rel f, ho.1, hl]
    refine ⟨rfl, _, rfl, .ref p, _, (pl : Int), rfl, decide_eq_true rfl, by omega, ?_⟩
    exact tail rfl _
  | add a b =>
    refine ⟨_, rfl, rfl, _, rfl, ifF (by kernel_rfl) ?_⟩
    refine ⟨_, rfl, rfl, _, rfl, ifF (by kernel_rfl) ?_⟩
    refine ⟨_, rfl, rfl, _, rfl, ifF (by kernel_rfl) ?_⟩
    refine ⟨_, rfl, rfl, _, rfl, ifF (by kernel_rfl) ?_⟩
    refine ⟨_, rfl, rfl, _, rfl, ifF (by kernel_rfl) ?_⟩
    exact tail rfl _
  | less a b =>
    refine ⟨_, rfl, rfl, _, rfl, ifF (by kernel_rfl) ?_⟩
    refine ⟨_, rfl, rfl, _, rfl, ifF (by kernel_rfl) ?_⟩
    refine ⟨_, rfl, rfl, _, rfl, ifF (by kernel_rfl) ?_⟩
    refine ⟨_, rfl, rfl, _, rfl, ifF (by kernel_rfl) ?_⟩
    refine ⟨_, rfl, rfl, _, rfl, ifF (by kernel_rfl) ?_⟩
    exact tail rfl _
  | ite c a b =>
    refine ⟨_, rfl, rfl, _, rfl, ifF (by kernel_rfl) ?_⟩
    refine ⟨_, rfl, rfl, _, rfl, ifF (by kernel_rfl) ?_⟩
    refine ⟨_, rfl, rfl, _, rfl, ifF (by kernel_rfl) ?_⟩
    refine ⟨_, rfl, rfl, _, rfl, ifF (by kernel_rfl) ?_⟩
    refine ⟨_, rfl, rfl, _, rfl, ifF (by kernel_rfl) ?_⟩
    exact tail rfl _
  | say a =>
    refine ⟨_, rfl, rfl, _, rfl, ifF (by kernel_rfl) ?_⟩
    refine ⟨_, rfl, rfl, _, rfl, ifF (by kernel_rfl) ?_⟩
    refine ⟨_, rfl, rfl, _, rfl, ifF (by kernel_rfl) ?_⟩
    refine ⟨_, rfl, rfl, _, rfl, ifF (by kernel_rfl) ?_⟩
    refine ⟨_, rfl, rfl, _, rfl, ifF (by kernel_rfl) ?_⟩
    exact tail rfl _
end BN
namespace BN
open PySem L2 PyProof.Rows
/-! ### check_program, check_run: what is good passes -/
def spCheckP (K : PySem.W.Frag) : Sp := fun vs H Q _ => ∃ (v : V) (ins : List Str) (pt : Part), vs = [v] ∧ Dp K H v (encP ins pt) ∧ ProgOk ins pt ∧ ∀ H', Fr c0 H H' → Q .non H'
theorem inv_P {K : PySem.W.Frag} {H : Hp} {v : V} {ins : List Str} {p : Part} (h : Dp K H v (encP ins p)) : ∃ t ti vp, v = .ref t ∧ SqT K H t [.ref ti, vp] ∧ SqT K H ti (ins.map V.str) ∧ Dp K H vp p.enc := by
  obtain ⟨t, xs, rfl, hT, ha⟩ := h.tup_inv
  obtain ⟨a, b, rfl, h1, h2⟩ := all2 ha
  obtain ⟨ti, ys, rfl, hT2, ha2⟩ := h1.tup_inv
  rw [ha2.strs_inv] at hT2
  exact ⟨t, ti, b, rfl, hT, hT2, h2⟩
def t_checkP (K : PySem.W.Frag) (cChk : Addr) : TS :=
  (tSeq (tAsg (tVar 0) (gTup K 2 (gCons (gName 1) (gCons (gName 2) gNil))))
    (tSeq (tAsg (tMake cChk (spChkInit cChk) [] C8.E0 tNil) (gName 3))
    (tSeq (tDrop (tMeth cChk "must" spMust [] C8.E0 (tVar 3) (tCons (tCall (spAreWords K) [] C8.E0 (tCons (tVar 1) (tCons (tC (.int 3)) tNil))) (tCons (tC (.int 0)) tNil))))
    (tDrop (tMeth cChk "look" (spLook K cChk 20) [] C8.E0 (tVar 3) (tCons (tVar 2) (tCons (tCB (rListSq K) (tCons (tVar 1) tNil)) (tCons tDNewK tNil))))))))
theorem pure_checkP {K : PySem.W.Frag} {cChk : Addr} {es : Array DictEntry} {n0 : Nat} (vs : List V) (H : Hp) (Q : VK) (E : XK) (h : spCheckP K vs H Q E) :
    t_checkP K cChk { nx := fun _ H' => Q .non H', rt := Q } (start ["program", "inputs", "part", "check"] vs) H := by
  obtain ⟨v, ins, pt, rfl, hd, O, k⟩ := h
  obtain ⟨t, ti, vp, rfl, hT, hI, dp⟩ := inv_P hd
  refine ⟨_, rfl, t, _, rfl, hT, rfl, _, _, rfl, _, _, rfl, rfl, ?_⟩
  intro p dx np ndx ned
  have f1 : Fr c0 H (upd (upd H dx (.own p)) p (.ins cChk dx [])) := by
    refine (Fr.new ndx).trans (Fr.new ?_)
    rw [upd_ne ned.symm]; exact np
  refine ⟨p, dx, rfl, upd_same, rfl, ?_⟩
  have f2 : Fr c0 H (upd (upd (upd H dx (.own p)) p (.ins cChk dx [])) p (.ins cChk dx (fl1 0))) := f1.fresh np
  have hp2 : (upd (upd (upd H dx (.own p)) p (.ins cChk dx [])) p (.ins cChk dx (fl1 0))) p = some (.ins cChk dx (fl1 0)) := upd_same
  generalize (upd (upd (upd H dx (.own p)) p (.ins cChk dx [])) p (.ins cChk dx (fl1 0))) = H2 at f2 hp2 ⊢
  have hl := O.il
  refine ⟨_, rfl, p, dx, _, rfl, hp2, fl1_no _ (by decide +kernel), _, rfl, ti, ins, 3, rfl, f2.sqT hI, by omega, fun x hx => ⟨by have := word_len (O.iw x hx); omega, strOk_word (O.iw x hx)⟩, fun H3 f3 => ⟨.ref p, _, 0, rfl, words_ok (by omega) O.nd O.iw, by omega, ?_⟩⟩
  have f23 := f2.trans f3
  have hp3 := f3.at hp2 (fun z => z)
  refine ⟨_, rfl, p, dx, _, rfl, hp3, fl1_no _ (by decide +kernel), _, rfl, _, rfl, ti, _, rfl, .inr (f23.sqT hI), fun l hl' => ?_⟩
  have f4 : Fr c0 H3 (upd H3 l (.lst (ins.map V.str))) := Fr.new hl'
  refine fun d hd' => ?_
  have f5 : Fr c0 (upd H3 l (.lst (ins.map V.str))) (upd (upd H3 l (.lst (ins.map V.str))) d (.dK [])) := Fr.new hd'
  have f45 := f4.trans f5
  have f25 := f23.trans f45
  have od := O.dep
  have ow := O.wid
  have os := O.sz
  refine ⟨p, dx, vp, l, d, pt, ins, (fun _ => none), [], 0, rfl, f45.at hp3 (fun z => z), ⟨Dp.fr f25 _ _ (tup_enc pt) dp, f5.at upd_same (fun z => z), upd_same⟩, ⟨fun f => rfl, O.ok, O.iw, fun f m e => by simp at e, by omega, by omega, by omega, by omega, Nat.le_refl _, by omega⟩, fun H6 f6 hp6 => ?_⟩
  exact k _ (f25.hide0 np f6)
def spCheckR (K : PySem.W.Frag) : Sp := fun vs H Q _ => ∃ (v : V) (tn : Addr) (me : Str) (ins : List Str) (pt : Part) (ns : List Int), vs = [v, .ref tn, .str me] ∧ Dp K H v (encP ins pt) ∧ ProgOk ins pt ∧ SqT K H tn (ns.map V.int) ∧ ns.length = ins.length ∧
  (∀ n ∈ ns, 0 ≤ n ∧ n ≤ 99) ∧ (me = "near" ∨ me = "called") ∧ ∀ H', Fr c0 H H' → Q .non H'
def t_checkR (K : PySem.W.Frag) : TS :=
  (tSeq (tDrop (tCall (spCheckP K) [] C8.E0 (tCons (tVar 0) tNil)))
    (tSeq (tIfS (tOr (tTest (tOp rNe (tCB (rLenSq K) (tCons (tVar 1) tNil)) (tCB (rLenSq K) (tCons (tOp (rIxT K) (tVar 0) (tC (.int 0))) tNil)))) (tNot (tB (tCB (rAll K) (tCons (tLc (iTup K (tVar 1)) (gName 3) tYes (tChain oLe oLe (tC (.int 0)) (tVar 3) (tC (.int 99))) [3]) tNil))))) tNever tNext)
    (tIfS (tTest (tOp (rIn K true) (tVar 2) (tTup (tCons (tC (.str "near")) (tCons (tC (.str "called")) tNil))))) tNever tNext)))
theorem pure_checkR {K : PySem.W.Frag} (vs : List V) (H : Hp) (Q : VK) (E : XK) (h : spCheckR K vs H Q E) : t_checkR K { nx := fun _ H' => Q .non H', rt := Q } (start ["program", "numbers", "meaning", "number"] vs) H := by
  obtain ⟨v, tn, me, ins, pt, ns, rfl, hd, O, hN, hl, hr, hm, k⟩ := h
  obtain ⟨t, ti, vp, rfl, hT, hI, dp⟩ := inv_P hd
  refine ⟨_, rfl, _, ins, pt, rfl, hd, O, fun H1 f1 => ?_⟩
  have il := O.il
  refine ⟨_, rfl, tn, _, rfl, .inr (f1.sqT hN), _, rfl, t, _, _, _, rfl, rfl, f1.sqT hT, rfl, ti, _, rfl, .inr (f1.sqT hI), rfl, _, rfl, ?_⟩
  refine ifF (by rw [List.length_map, List.length_map, hl]; simp) ?_
  refine ⟨_, rfl, tn, rfl, ⟨_, f1.sqT hN⟩, ?_⟩
  refine lcG_tup (K := K) (a := tn) (xs := ns.map V.int) (C := c0) (I := fun _ => True) (Good := fun i d => d = .bool true) (f1.sqT hN) (fun _ _ _ _ _ => trivial) (fun _ _ _ z => z) trivial (by rw [List.length_map]; omega) (fun i v hi H' f' _ Q' hQ => ?_) fun D2 vs ds H2 hD2 e2 da2 dl dg f2 _ => ?_
  · obtain ⟨q, hq, rfl⟩ := map_at hi
    have h99 := hr q (List.mem_of_getElem? hq)
    refine ⟨_, rfl, _, _, rfl, rfl, _, rfl, ifT (decide_eq_true h99.1) ⟨_, _, rfl, rfl, ?_⟩⟩
    show Q' (.bl (decide (q ≤ 99))) H'
    rw [decide_eq_true h99.2]
    exact hQ (.bool true) _ _ rfl rfl (.bl _) (Fr.refl _) trivial
  · have hds : ds = (ns.map fun _ => true).map PyData.bool := by
      rw [List.map_map]
      refine eq_map_of_at (by rw [dl, List.length_map]) fun k d hk => ?_
      have h1 := at_lt hk
      rw [dl, List.length_map] at h1
      obtain ⟨q, hq⟩ := get_lt h1
      exact ⟨q, hq, (dg k d hk).1⟩
    rw [hds] at da2
    refine ⟨D2, _, rfl, SqL.of (by rw [← bools_inv da2]; exact e2), _, rfl, ?_⟩
    have : (ns.map fun _ => true).all id = true := by rw [List.all_map, List.all_eq_true]; intro _ _; rfl
    rw [this]
    refine ifF rfl ?_
    refine ⟨_, rfl, one_sz (by show 2 ≤ 1000; decide), fun q hq => ⟨q, _, rfl, .inr (SqT.of upd_same), rfl, rfl, _, rfl, ?_⟩⟩
    have : (!inV (.str me) [.str "near", .str "called"]) = false := by rcases hm with rfl | rfl <;> decide +kernel
    exact ifF this (k _ ((f1.trans f2).trans (Fr.new hq)))
end BN
namespace BN
open PySem L2 PyProof.Rows
/-! ### comprehensions whose turns change what is told -/
structure LcK (K : PySem.W.Frag) (C : CP) (I : Nat → Hp → Prop) (D : Addr) (H1 : Hp) (Good : Nat → PyData → Prop) (i : Nat) (H' : Hp) : Prop where
  ex : ∃ (vs : List V) (ds : List PyData), H' D = some (.lst vs) ∧ DpAll K H' vs ds ∧ ds.length = i ∧ (∀ k d, ds[k]? = some d → Good k d ∧ tupD d = true) ∧ Fr C H1 H' ∧ I i H'
section
variable {K : PySem.W.Frag} {C : CP} {I : Nat → Hp → Prop} {D : Addr} {H1 H' H'' : Hp} {Good : Nat → PyData → Prop} {i n : Nat}
theorem LcK.step (hI : ∀ i H' D ys, H1 D = none → Fr (fun a _ => a = D) H' (upd H' D (.lst ys)) → I i H' → I i (upd H' D (.lst ys))) (hC : ∀ D o, H1 D = none → ¬ C D o) (hD : H1 D = none) (hi : i < 100000) (L : LcK K C I D H1 Good i H') {d : PyData} {y : V} (g : Good i d) (t : tupD d = true) (hd : Dp K H'' y d) (f : Fr C H' H'') (h : I (i + 1) H'') :
    ∃ acc, H'' D = some (.lst acc) ∧ acc.length < sizeLine ∧ LcK K C I D H1 Good (i + 1) (upd H'' D (.lst (acc ++ [y]))) := by
  obtain ⟨vs, ds, e, da, dl, dg, df, dI⟩ := L.ex
  have e2 := f.at e (hC D _ hD)
  have dt : tupDs ds = true := tupDs_all fun x hx => by
    obtain ⟨k, hk⟩ := List.getElem?_of_mem hx
    exact (dg k x hk).2
  have f2 : Fr (fun a _ => a = D) H'' (upd H'' D (.lst (vs ++ [y]))) := Fr.set e2 rfl trivial
  refine ⟨vs, e2, ?_, vs ++ [y], ds ++ [d], upd_same, ?_, ?_, ?_, (df.trans f).fresh hD, hI _ _ _ _ hD f2 h⟩
  · rw [da.len, dl]
    exact Nat.lt_of_lt_of_le hi (by rw [sizeLine_eq]; decide)
  · exact (Dp.frs f2 _ _ dt (Dp.frs f _ _ dt da)).append (.cons (Dp.fr f2 _ _ t hd) .nil)
  · rw [List.length_append, dl]; rfl
  · intro k x hk
    by_cases hlt : k < ds.length
    · rw [List.getElem?_append_left hlt] at hk
      exact dg k x hk
    · rw [List.getElem?_append_right (by omega)] at hk
      have : k - ds.length = 0 := by
        cases q : k - ds.length with
        | zero => rfl
        | succ m => rw [q] at hk; simp at hk
      rw [this] at hk
      have e : d = x := by simpa using hk
      subst e
      have : k = i := by omega
      subst this
      exact ⟨g, t⟩
def LkQ (K : PySem.W.Frag) (C : CP) (I : Nat → Hp → Prop) (H1 : Hp) (Good : Nat → PyData → Prop) (n : Nat) (Q : Addr → Hp → Prop) : Prop :=
  ∀ D vs ds H', H1 D = none → H' D = some (.lst vs) → DpAll K H' vs ds → ds.length = n → (∀ k d, ds[k]? = some d → Good k d ∧ tupD d = true) → Fr C H1 H' → I n H' → Q D H'
def LkE (K : PySem.W.Frag) (C : CP) (I : Nat → Hp → Prop) (H1 : Hp) (Good : Nat → PyData → Prop) (i : Nat) (te : TE) (σ : L2.St) : Prop :=
  ∀ H', Fr C H1 H' → I i H' → ∀ Q : VK, (∀ d v H'', Good i d → tupD d = true → Dp K H'' v d → Fr C H' H'' → I (i + 1) H'' → Q v H'') → te σ H' Q
variable {te : TE} {σ : L2.St} {j : Nat} {Q : Addr → Hp → Prop}
theorem lcJ_tup {a : Addr} {xs : List V} (hx : SqT K H1 a xs) (hI : ∀ i H' D ys, H1 D = none → Fr (fun a _ => a = D) H' (upd H' D (.lst ys)) → I i H' → I i (upd H' D (.lst ys))) (hC : ∀ D o, H1 D = none → ¬ C D o) (h0 : I 0 H1) (hn : xs.length ≤ 100000)
    (hte : ∀ i x, xs[i]? = some x → LkE K C I H1 Good i te ((wipe σ [j]).set j (some x))) (hq : LkQ K C I H1 Good xs.length Q) : ∀ D, H1 D = none →
    ∃ W : Nat → Nat → Hp → Prop, (∃ m, W 0 m (upd H1 D (.lst []))) ∧ ∀ i m H, W i m H →
      ((Itt K a).stop i H ∧ Q D H) ∨ ((Itt K a).go i H ∧ ∃ Nx : Hp → Prop, (∀ H', Nx H' → ∃ m', m' < m ∧ W (i + 1) m' H') ∧ ∀ x H', (Itt K a).yld i H x H' → gName j x (wipe σ [j]) H' fun σ2 H2 => wipe σ2 [j] = wipe σ [j] ∧ tYes σ2 H2 fun b H3 =>
        if b = true then te σ2 H3 fun y H4 => ∃ acc, H4 D = some (.lst acc) ∧ acc.length < sizeLine ∧ Nx (upd H4 D (.lst (acc ++ [y]))) else Nx H3) := fun D hD => by
  refine lc_tup (K := K) (a := a) (xs := xs) (Qd := fun H => Q D H) (LcK K C I D H1 Good) ⟨[], [], upd_same, .nil, rfl, fun k d h => by simp at h, Fr.new hD, hI _ _ _ _ hD (Fr.new hD) h0⟩ (fun i H' _ L => by
    obtain ⟨vs, ds, e, da, dl, dg, df, dI⟩ := L.ex
    exact df.sqT hx) (fun i x H' hi L => ⟨wipe1 _ _ _, ?_⟩) fun H' L => ?_
  · obtain ⟨vs, ds, e, da, dl, dg, df, dI⟩ := L.ex
    have := at_lt hi
    exact hte i x hi H' df dI _ fun d v H'' g t hd f h => LcK.step hI hC hD (by omega) L g t hd f h
  · obtain ⟨vs, ds, e, da, dl, dg, df, dI⟩ := L.ex
    exact hq D vs ds H' hD e da dl dg df dI
end
abbrev rDictP (K : PySem.W.Frag) : List V → Hp → VK → Prop := fun xs H Q => ∃ (a : Addr) (ps : List Addr) (kvs : List (Key × V)), xs = [.ref a] ∧ SqL K H a (ps.map V.ref) ∧ Paired (fun p kv => SqT K H p [kV kv.1, kv.2]) ps kvs ∧ ∀ p, H p = none → Q (.ref p) (upd H p (.dK (mergeK [] kvs)))
/-! ### rooms, piles, functions on the heap -/
def roomK (r : Room) : List (Key × V) := r.map fun e => (Sum.inr e.1, .int e.2)
theorem valV_room (x : Str) : ∀ r : Room, valV (roomK r) (Sum.inr x) = (r.lookup x).map V.int
  | [] => rfl
  | (y, n) :: r => by
    unfold roomK
    rw [List.map_cons]
    by_cases e : x = y
    · subst e; rw [valV_pos rfl]; simp [List.lookup]
    · rw [valV_neg (by simpa using fun z => e z.symm)]
      have q : (x == y) = false := by simpa using e
      simp only [List.lookup, q]
      exact valV_room x r
theorem merge_room : ∀ (r acc : Room), ((acc ++ r).map (·.1)).Nodup → mergeK (roomK acc) (roomK r) = roomK (acc ++ r)
  | [], acc, _ => by simp [roomK, mergeK]
  | (x, n) :: r, acc, h => by
    have hx : valV (roomK acc) (Sum.inr x) = none := by
      rw [valV_room]
      cases q : acc.lookup x with
      | none => rfl
      | some m =>
        exfalso
        have hm : x ∈ acc.map (·.1) := by
          clear h
          induction acc with
          | nil => simp at q
          | cons b t ih =>
            by_cases e : x = b.1
            · rw [e]; simp
            · have q' : (x == b.1) = false := by simpa using e
              obtain ⟨b1, b2⟩ := b
              simp only [List.lookup, q'] at q
              exact List.mem_cons_of_mem _ (ih q)
        rw [List.map_append] at h
        exact (List.nodup_append.mp h).2.2 x hm x (by simp) rfl
    have e1 : mergeK (roomK acc) (roomK ((x, n) :: r)) = mergeK (putK (roomK acc) (Sum.inr x) (.int n)) (roomK r) := rfl
    have e2 : roomK acc ++ [(Sum.inr x, V.int n)] = roomK (acc ++ [(x, n)]) := by simp [roomK]
    rw [e1, putK_new _ hx, e2, merge_room r (acc ++ [(x, n)]) (by simpa using h)]
    simp
theorem zip_fst : ∀ (ps : List Str) (vs : List Int), ps.length = vs.length → (ps.zip vs).map (·.1) = ps
  | [], _, _ => by simp
  | p :: ps, [], h => by simp at h
  | p :: ps, v :: vs, h => by simp [zip_fst ps vs (by simpa using h)]
theorem merge_zip {ps : List Str} {vs : List Int} (hn : ps.Nodup) (hl : ps.length = vs.length) : mergeK [] (roomK (ps.zip vs)) = roomK (ps.zip vs) := by
  have := merge_room (ps.zip vs) [] (by rw [List.nil_append, zip_fst _ _ hl]; exact hn)
  simpa [roomK] using this
/-- what may be written: two lists -/
def cT (a b : Addr) : CP := fun c o => (c = a ∨ c = b) ∧ ∃ xs, o = .lst xs
theorem cT_dK {a b c : Addr} {kvs : List (Key × V)} : ¬ cT a b c (.dK kvs) := fun z => by obtain ⟨_, xs, e⟩ := z; cases e
theorem cT_ins {a b c C dx : Addr} {fs : List (Str × V)} : ¬ cT a b c (.ins C dx fs) := fun z => by obtain ⟨_, xs, e⟩ := z; cases e
/-- how a pile stands: as a tuple, as a list -/
abbrev PS' := Hp → Addr → List V → Prop
def PStay (S : PS') (C : CP) : Prop := ∀ H H' a xs, Fr C H H' → S H a xs → S H' a xs
structure PileAt (S : PS') (H : Hp) (a : Addr) (P : List Room) : Prop where
  ex : ∃ ds : List Addr, S H a (ds.map V.ref) ∧ ds.length = P.length ∧ ∀ (k : Nat) (d : Addr) (r : Room), ds[k]? = some d → P[k]? = some r → H d = some (.dK (roomK r))
def FunsAt (S : PS') (K : PySem.W.Frag) (H : Hp) : Addr → List Fn → Prop
  | a, [] => H a = some (.dK [])
  | a, e :: t => ∃ (kn tt tp ph : Addr) (vb : V) (kvs : List (Key × V)), FunsAt S K H kn t ∧ H kn = some (.dK kvs) ∧ H a = some (.dK (putK kvs (Sum.inr e.f) (.ref tt))) ∧ SqT K H tt [.ref tp, vb, .ref ph, .ref kn] ∧ SqT K H tp (e.ps.map V.str) ∧ Dp K H vb e.b.enc ∧ PileAt S H ph e.home
section
variable {S : PS'} {K : PySem.W.Frag} {H H' : Hp} {C : CP}
theorem PileAt.fr {a : Addr} {P : List Room} (hS : PStay S C) (hC : ∀ c kvs, ¬ C c (.dK kvs)) (f : Fr C H H') (h : PileAt S H a P) : PileAt S H' a P := by
  obtain ⟨ds, h1, h2, h3⟩ := h.ex
  exact ⟨ds, hS _ _ _ _ f h1, h2, fun k d r e1 e2 => f.at (h3 k d r e1 e2) (hC _ _)⟩
theorem FunsAt.fr (hS : PStay S C) (hC : ∀ c kvs, ¬ C c (.dK kvs)) (f : Fr C H H') : ∀ {fe : List Fn} {a : Addr}, FunsAt S K H a fe → FunsAt S K H' a fe
  | [], a, h => f.at (show H a = some (.dK []) from h) (hC _ _)
  | e :: t, a, h => by
    obtain ⟨kn, tt, tp, ph, vb, kvs, h1, h2, h3, h4, h5, h6, h7⟩ := h
    exact ⟨kn, tt, tp, ph, vb, kvs, FunsAt.fr hS hC f h1, f.at h2 (hC _ _), f.at h3 (hC _ _), f.sqT h4, f.sqT h5, Dp.fr f _ _ (tup_enc _) h6, h7.fr hS hC f⟩
theorem FunsAt.dict : ∀ {fe : List Fn} {a : Addr}, FunsAt S K H a fe → ∃ kvs, H a = some (.dK kvs) ∧ kvs.length ≤ fe.length
  | [], a, h => ⟨[], h, Nat.le_refl _⟩
  | e :: t, a, h => by
    obtain ⟨kn, tt, tp, ph, vb, kvs, h1, h2, h3, _⟩ := h
    obtain ⟨kvs', g1, g2⟩ := FunsAt.dict h1
    rw [h2] at g1
    cases g1
    have := putK_le kvs (Sum.inr e.f) (.ref tt)
    exact ⟨_, h3, by rw [List.length_cons]; omega⟩
theorem FunsAt.get : ∀ {l : List Fn} {e : Fn} {t : List Fn} {a : Addr}, FunsAt S K H a (l ++ e :: t) → (∀ x ∈ l, x.f ≠ e.f) → ∃ (kvs : List (Key × V)) (kn tt tp ph : Addr) (vb : V), H a = some (.dK kvs) ∧ valV kvs (Sum.inr e.f) = some (.ref tt) ∧ FunsAt S K H kn t ∧
    SqT K H tt [.ref tp, vb, .ref ph, .ref kn] ∧ SqT K H tp (e.ps.map V.str) ∧ Dp K H vb e.b.enc ∧ PileAt S H ph e.home
  | [], e, t, a, h, _ => by
    obtain ⟨kn, tt, tp, ph, vb, kvs, h1, h2, h3, h4, h5, h6, h7⟩ := h
    exact ⟨_, kn, tt, tp, ph, vb, h3, by rw [valV_put, if_pos rfl], h1, h4, h5, h6, h7⟩
  | x :: l, e, t, a, h, hl => by
    obtain ⟨kn, tt, tp, ph, vb, kvs, h1, h2, h3, h4, h5, h6, h7⟩ := h
    obtain ⟨kvs', kn', tt', tp', ph', vb', g1, g2, g3⟩ := FunsAt.get h1 fun y hy => hl y (List.mem_cons_of_mem _ hy)
    rw [h2] at g1
    cases g1
    refine ⟨_, kn', tt', tp', ph', vb', h3, ?_, g3⟩
    rw [valV_put, if_neg (by simpa using fun z => hl x (List.mem_cons_self ..) z.symm)]
    exact g2
end
/-! ### what is told: readings, numbers said -/
def encRow (r : Row) : PyData := .tuple [.str r.1, .int (r.2.1 : Int), .int r.2.2]
theorem tup_rows (l : List Row) : tupDs (l.map encRow) = true := tupDs_all fun d hd => by
  obtain ⟨x, _, rfl⟩ := List.mem_map.mp hd
  simp [encRow, tupD, tupDs]
structure TAt (K : PySem.W.Frag) (H : Hp) (r1 r2 : Addr) (rows : List Row) (said : List Int) : Prop where
  ne : r1 ≠ r2
  rw : ∃ rv, H r1 = some (.lst rv) ∧ DpAll K H rv (rows.map encRow)
  sd : H r2 = some (.lst (said.map V.int))
theorem TAt.fr {K : PySem.W.Frag} {H H' : Hp} {r1 r2 : Addr} {rows : List Row} {said : List Int} (T : TAt K H r1 r2 rows said) (f : Fr c0 H H') : TAt K H' r1 r2 rows said := by
  obtain ⟨rv, h1, h2⟩ := T.rw
  exact ⟨T.ne, ⟨rv, f.at h1 (fun z => z), Dp.frs f _ _ (tup_rows _) h2⟩, f.at T.sd (fun z => z)⟩
theorem TAt.new {K : PySem.W.Frag} {H : Hp} {r1 r2 : Addr} {rows : List Row} {said : List Int} {D : Addr} {o : HO} (T : TAt K H r1 r2 rows said) (h1 : D ≠ r1) (h2 : D ≠ r2) (f : Fr (fun a _ => a = D) H (upd H D o)) : TAt K (upd H D o) r1 r2 rows said := by
  obtain ⟨rv, g1, g2⟩ := T.rw
  exact ⟨T.ne, ⟨rv, by rw [upd_ne h1.symm]; exact g1, Dp.frs f _ _ (tup_rows _) g2⟩, by rw [upd_ne h2.symm]; exact T.sd⟩
end BN
namespace BN
open PySem L2 PyProof.Rows
/-! ### the program's Rooms: made, read -/
def flR (b : Bool) (r s : Addr) : List (Str × V) := [("is_near", .bl b), ("rows", .ref r), ("said", .ref s)]
theorem flR2 (b r : V) : putF "rows" r [(("is_near" : Str), b)] = [(("is_near" : Str), b), ("rows", r)] := by
  show (if ("is_near" : Str) = "rows" then _ else _) = _
  rw [if_neg (by decide +kernel)]; rfl
theorem flR3 (b r s : V) : putF "said" s [(("is_near" : Str), b), ("rows", r)] = [(("is_near" : Str), b), ("rows", r), ("said", s)] := by
  show (if ("is_near" : Str) = "said" then _ else (("is_near" : Str), b) :: (if ("rows" : Str) = "said" then _ else _)) = _
  rw [if_neg (by decide +kernel), if_neg (by decide +kernel)]; rfl
theorem flR_near (b : Bool) (r s : Addr) : (flR b r s).lookup ("is_near" : Str) = some (.bl b) := by simp [flR, List.lookup]
theorem flR_rows (b : Bool) (r s : Addr) : (flR b r s).lookup ("rows" : Str) = some (.ref r) := by
  have e : (("rows" : Str) == "is_near") = false := by decide +kernel
  simp [flR, List.lookup, e]
theorem flR_said (b : Bool) (r s : Addr) : (flR b r s).lookup ("said" : Str) = some (.ref s) := by
  have e : (("said" : Str) == "is_near") = false := by decide +kernel
  have e2 : (("said" : Str) == "rows") = false := by decide +kernel
  simp [flR, List.lookup, e, e2]
theorem flR_no (b : Bool) (r s : Addr) {m : Str} (h1 : (m == ("is_near" : Str)) = false) (h2 : (m == ("rows" : Str)) = false) (h3 : (m == ("said" : Str)) = false) : (flR b r s).lookup m = none := by
  simp only [flR, List.lookup, h1, h2, h3]
theorem Fr.setO {p C dx : Addr} {fs : List (Str × V)} {H : Hp} {o' : HO} (hp : H p = some (.ins C dx fs)) : Fr (cI p) H (upd H p o') := Fr.setI hp trivial
structure RmsC (K : PySem.W.Frag) (C : Addr) : Prop where
  cl : Cls K C
  nN : NoAttr K C "is_near"
  nR : NoAttr K C "rows"
  nS : NoAttr K C "said"
def spRmInit (C : Addr) : Sp := fun vs H Q _ => ∃ (p dx : Addr) (me : Str), vs = [.ref p, .str me] ∧ H p = some (.ins C dx []) ∧
  ∀ (ar sa : Addr) (H' : Hp), H ar = none → H sa = none → ar ≠ sa → Fr (cI p) H H' → H' p = some (.ins C dx (flR (decide (me = "near")) ar sa)) → H' ar = some (.lst []) → H' sa = some (.lst []) → Q .non H'
def t_rinit (K : PySem.W.Frag) : TS :=
  (tSeq (sFld K (tVar 0) (tOp rEq (tVar 1) (tC (.str "near"))) "is_near")
    (tSeq (sFld K (tVar 0) (tLst tNil) "rows")
    (sFld K (tVar 0) (tLst tNil) "said")))
theorem pure_rinit {K : PySem.W.Frag} {C : Addr} (T : RmsC K C) (vs : List V) (H : Hp) (Q : VK) (E : XK) (h : spRmInit C vs H Q E) : t_rinit K { nx := fun _ H' => Q .non H', rt := Q } (start ["self", "meaning"] vs) H := by
  obtain ⟨p, dx, me, rfl, hp, k⟩ := h
  refine ⟨_, rfl, rfl, _, rfl, p, C, dx, [], rfl, hp, T.cl, T.nN, (by show 0 < 1000; decide), ?_⟩
  have eb : decide (V.str me = V.str "near") = decide (me = "near") := decide_eq_decide.mpr ⟨fun z => V.str.inj z, fun z => by rw [z]⟩
  rw [eb]
  have f1 : Fr (cI p) H (upd H p (.ins C dx (putF "is_near" (.bl (decide (me = "near"))) []))) := Fr.setI hp trivial
  refine ⟨one_sz (Nat.zero_le _), fun ar har => ?_⟩
  have npa : p ≠ ar := ne_of_none upd_same har
  refine ⟨_, rfl, p, C, dx, _, rfl, (by rw [upd_ne npa]; exact upd_same), T.cl, T.nR, (by show 1 < 1000; decide), ?_⟩
  rw [show putF "is_near" (V.bl (decide (me = "near"))) [] = [(("is_near" : Str), V.bl (decide (me = "near")))] from rfl, flR2]
  rw [show putF "is_near" (V.bl (decide (me = "near"))) [] = [(("is_near" : Str), V.bl (decide (me = "near")))] from rfl] at f1 har
  generalize hH1 : (upd H p (.ins C dx [(("is_near" : Str), V.bl (decide (me = "near")))])) = H1 at f1 har ⊢
  have hp1 : H1 p = some (.ins C dx [(("is_near" : Str), V.bl (decide (me = "near")))]) := by rw [← hH1]; exact upd_same
  have f2 : Fr (cI p) H1 (upd (upd H1 ar (.lst [])) p (.ins C dx [("is_near", .bl (decide (me = "near"))), ("rows", .ref ar)])) :=
    (Fr.new har).trans (Fr.setO (by rw [upd_ne npa]; exact hp1))
  have hp2 : (upd (upd H1 ar (.lst [])) p (.ins C dx [("is_near", .bl (decide (me = "near"))), ("rows", .ref ar)])) p = some (.ins C dx [("is_near", .bl (decide (me = "near"))), ("rows", .ref ar)]) := upd_same
  have ha2 : (upd (upd H1 ar (.lst [])) p (.ins C dx [("is_near", .bl (decide (me = "near"))), ("rows", .ref ar)])) ar = some (.lst []) := by rw [upd_ne npa.symm, upd_same]
  refine ⟨one_sz (Nat.zero_le _), fun sa hsa => ?_⟩
  have nps : p ≠ sa := ne_of_none upd_same hsa
  generalize (upd (upd H1 ar (.lst [])) p (.ins C dx [("is_near", .bl (decide (me = "near"))), ("rows", .ref ar)])) = H2 at f2 hp2 ha2 hsa ⊢
  have nas : ar ≠ sa := ne_of_none ha2 hsa
  refine ⟨_, rfl, p, C, dx, _, rfl, (by rw [upd_ne nps]; exact hp2), T.cl, T.nS, (by show 2 < 1000; decide), ?_⟩
  rw [flR3]
  refine k ar sa _ (f1.free _ har) ((f1.trans f2).free _ hsa) nas ((f1.trans f2).trans ((Fr.new hsa).trans (Fr.setO (by rw [upd_ne nps]; exact hp2)))) upd_same ?_ ?_
  · rw [upd_ne npa.symm, upd_ne nas]; exact ha2
  · rw [upd_ne nps.symm, upd_same]
/-! ### a reading -/
theorem rdR_lt {x : Str} : ∀ {l : List Room} {k : Nat}, k < (rdR l x).1 → ∃ r, l[k]? = some r ∧ r.lookup x = none
  | [], k, h => by simp [rdR] at h
  | r :: t, k, h => by
    cases e : r.lookup x with
    | some n => simp [rdR, e] at h
    | none =>
      cases k with
      | zero => exact ⟨r, rfl, e⟩
      | succ k =>
        have h' : k < (rdR t x).1 := by simpa [rdR, e] using h
        obtain ⟨r', h1, h2⟩ := rdR_lt (l := t) (k := k) h'
        exact ⟨r', by simpa using h1, h2⟩
theorem rdR_at {x : Str} : ∀ {l : List Room}, (∃ r ∈ l, (r.lookup x).isSome = true) → ∃ r, l[(rdR l x).1]? = some r ∧ r.lookup x = some (rdR l x).2
  | [], h => by obtain ⟨r, h, _⟩ := h; simp at h
  | r :: t, h => by
    cases e : r.lookup x with
    | some n => exact ⟨r, by simp [rdR, e], by simp [rdR, e]⟩
    | none =>
      obtain ⟨r', hr, h'⟩ := h
      have ht : r' ∈ t := by
        rcases List.mem_cons.mp hr with rfl | z
        · rw [e] at h'; simp at h'
        · exact z
      obtain ⟨r'', h1, h2⟩ := rdR_at (l := t) ⟨r', ht, h'⟩
      exact ⟨r'', by simpa [rdR, e] using h1, by simpa [rdR, e] using h2⟩
theorem rev_at {P : List Room} {k : Nat} {r : Room} (h : P.reverse[k]? = some r) : k < P.length ∧ P[P.length - 1 - k]? = some r := by
  have hk : k < P.length := by have := at_lt h; simpa using this
  refine ⟨hk, ?_⟩
  rw [List.getElem?_reverse hk] at h
  exact h
theorem rd_lt {P : List Room} {x : Str} {k : Nat} (h : k < (rd P x).1) : ∃ r, k < P.length ∧ P[P.length - 1 - k]? = some r ∧ r.lookup x = none := by
  obtain ⟨r, h1, h2⟩ := rdR_lt h
  have := rev_at h1
  exact ⟨r, this.1, this.2, h2⟩
theorem rd_at {P : List Room} {x : Str} (h : hasR P x) : ∃ r, (rd P x).1 < P.length ∧ P[P.length - 1 - (rd P x).1]? = some r ∧ r.lookup x = some (rd P x).2 := by
  obtain ⟨r0, hr, e⟩ := h
  obtain ⟨r, h1, h2⟩ := rdR_at (l := P.reverse) (x := x) ⟨r0, List.mem_reverse.mpr hr, e⟩
  have := rev_at h1
  exact ⟨r, this.1, this.2, h2⟩
theorem TAt.row {K : PySem.W.Frag} {H : Hp} {r1 r2 : Addr} {rows : List Row} {said : List Int} (T : TAt K H r1 r2 rows said) {t : Addr} {x : Str} {k : Nat} {n : Int} {rv : List V} (e : H r1 = some (.lst rv)) (ht : H t = some (.tup [.str x, .int (k : Int), .int n])) :
    TAt K (upd H r1 (.lst (rv ++ [.ref t]))) r1 r2 (rows ++ [(x, k, n)]) said := by
  obtain ⟨rv', h1, h2⟩ := T.rw
  rw [e] at h1; cases h1
  have f : Fr (cT r1 r2) H (upd H r1 (.lst (rv ++ [.ref t]))) := Fr.set e ⟨.inl rfl, _, rfl⟩ trivial
  have nt : t ≠ r1 := fun z => by rw [z, e] at ht; cases ht
  refine ⟨T.ne, ⟨_, upd_same, ?_⟩, by rw [upd_ne T.ne.symm]; exact T.sd⟩
  rw [List.map_append]
  refine (Dp.frs f _ _ (tup_rows _) h2).append (.cons ?_ .nil)
  exact .tup (SqT.of (by rw [upd_ne nt]; exact ht)) (.cons (.str _) (.cons (.int _) (.cons (.int _) .nil)))
def spRead (K : PySem.W.Frag) (C : Addr) : Sp := fun vs H Q _ => ∃ (p dx : Addr) (x : Str) (ap : Addr) (P : List Room) (ar sa : Addr) (near : Bool) (rows : List Row) (said : List Int), vs = [.ref p, .str x, .ref ap] ∧ H p = some (.ins C dx (flR near ar sa)) ∧
  TAt K H ar sa rows said ∧ PileAt (SqT K) H ap P ∧ hasR P x ∧ P.length ≤ 1000 ∧ rows.length < 16000000 ∧
  ∀ H', Fr (cT ar sa) H H' → TAt K H' ar sa (rows ++ [(x, (rd P x).1, (rd P x).2)]) said → Q (.int (rd P x).2) H'
def t_read (K : PySem.W.Frag) : TS :=
  (tSeq (tAsg (tC (.int 0)) (gName 3))
    (tSeq (tWhile (tB (tDNotIn (tVar 1) (tOp (rIxT K) (tVar 2) (tOp oSub (tOp oSub (tCB (rLenSq K) (tCons (tVar 2) tNil)) (tC (.int 1))) (tVar 3))))) (tAsg (tOp oAdd (tVar 3) (tC (.int 1))) (gName 3)))
    (tSeq (tAsg (tDGet (tOp (rIxT K) (tVar 2) (tOp oSub (tOp oSub (tCB (rLenSq K) (tCons (tVar 2) tNil)) (tC (.int 1))) (tVar 3))) (tVar 1)) (gName 4))
    (tSeq (tDrop (tBM K "list" rAppend (tFld K (tVar 0) "rows") (tCons (tTup (tCons (tVar 1) (tCons (tVar 3) (tCons (tVar 4) tNil)))) tNil)))
    (tRet (tVar 4))))))
theorem pure_read {K : PySem.W.Frag} {C : Addr} (T : RmsC K C) (vs : List V) (H : Hp) (Q : VK) (E : XK) (h : spRead K C vs H Q E) : t_read K { nx := fun _ H' => Q .non H', rt := Q } (start ["self", "name", "pile", "passed", "number"] vs) H := by
  obtain ⟨p, dx, x, ap, P, ar, sa, near, rows, said, rfl, hp, TA, PA, hx, hl, hn, k⟩ := h
  obtain ⟨ds, h1, h2, h3⟩ := PA.ex
  obtain ⟨r0, l0, a0, b0⟩ := rd_at hx
  have room : ∀ {j : Nat} {r : Room}, j < P.length → P[P.length - 1 - j]? = some r → ∃ d : Addr, atI (ds.map V.ref) (((ds.map V.ref).length : Int) - 1 - (j : Int)) = some (.ref d) ∧ H d = some (.dK (roomK r)) := fun {j r} hj e => by
    have lt : P.length - 1 - j < ds.length := by omega
    obtain ⟨d, hd⟩ := get_lt lt
    refine ⟨d, ?_, h3 _ d r hd e⟩
    have ei : (((ds.map V.ref).length : Nat) : Int) - 1 - (j : Int) = ((P.length - 1 - j : Nat) : Int) := by rw [List.length_map]; omega
    rw [ei]
    exact atI_nat (by rw [List.getElem?_map, hd]; rfl)
  refine ⟨fun m σ H' => ∃ j : Nat, σ = [some (.ref p), some (.str x), some (.ref ap), some (.int j), none] ∧ H' = H ∧ j + m = (rd P x).1, ⟨(rd P x).1, 0, rfl, rfl, Nat.zero_add _⟩, ?_⟩
  rintro m σ H' ⟨j, rfl, rfl, hj⟩
  by_cases hm : m = 0
  · subst hm
    have ej : j = (rd P x).1 := by omega
    subst ej
    obtain ⟨d, e1, e2⟩ := room l0 a0
    refine ⟨_, rfl, _, rfl, _, rfl, ap, _, rfl, .inr h1, _, _, rfl, rfl, _, rfl, _, _, rfl, rfl, ap, _, _, _, rfl, rfl, h1, e1, d, _, rfl, DGet.k (k := Sum.inr x) e2, _, rfl, ?_⟩
    refine ifF (by rw [valV_room, b0]; rfl) ?_
    have e3 : valV (roomK r0) (Sum.inr x) = some (.int (rd P x).2) := by rw [valV_room, b0]; rfl
    refine ⟨_, rfl, _, rfl, ap, _, rfl, .inr h1, _, _, rfl, rfl, _, rfl, _, _, rfl, rfl, ap, _, _, _, rfl, rfl, h1, e1, _, rfl, d, _, rfl, by have := DGet.k (k := Sum.inr x) e2; rw [e3] at this; exact this, ?_⟩
    obtain ⟨rv, g1, g2⟩ := TA.rw
    refine ⟨_, rfl, p, C, dx, _, _, rfl, hp, T.cl, T.nR, flR_rows _ _ _, ?_⟩
    refine ⟨.inl ⟨rfl, _, SqL.of g1⟩, _, rfl, _, rfl, _, rfl, one_sz (by show 3 ≤ 1000; decide), fun t ht => ?_⟩
    have f1 : Fr c0 H' (upd H' t (.tup [.str x, .int ((rd P x).1 : Int), .int (rd P x).2])) := Fr.new ht
    have T1 := TA.fr f1
    have g1' := f1.at g1 (fun z => z)
    have lr : rv.length = rows.length := by rw [g2.len, List.length_map]
    refine ⟨ar, rv, _, rfl, rfl, g1', Nat.lt_of_lt_of_le (m := 16000000) (by omega) (by rw [sizeLine_eq]; decide), ?_⟩
    have f2 : Fr (cT ar sa) (upd H' t (.tup [.str x, .int ((rd P x).1 : Int), .int (rd P x).2])) (upd (upd H' t (.tup [.str x, .int ((rd P x).1 : Int), .int (rd P x).2])) ar (.lst (rv ++ [.ref t]))) := Fr.set g1' ⟨.inl rfl, _, rfl⟩ trivial
    exact ⟨_, rfl, k _ ((Fr.of0 f1).trans f2) (T1.row g1' upd_same)⟩
  · obtain ⟨r, l1, a1, b1⟩ := rd_lt (P := P) (x := x) (k := j) (by omega)
    obtain ⟨d, e1, e2⟩ := room l1 a1
    refine ⟨_, rfl, _, rfl, _, rfl, ap, _, rfl, .inr h1, _, _, rfl, rfl, _, rfl, _, _, rfl, rfl, ap, _, _, _, rfl, rfl, h1, e1, d, _, rfl, DGet.k (k := Sum.inr x) e2, _, rfl, ?_⟩
    refine ifT (by rw [valV_room, b1]; rfl) ?_
    refine ⟨fun σ' H'' => ∃ j : Nat, σ' = [some (.ref p), some (.str x), some (.ref ap), some (.int j), none] ∧ H'' = H' ∧ j + (m - 1) = (rd P x).1, fun σ' H'' z => ⟨m - 1, by omega, z⟩, ?_⟩
    exact ⟨_, rfl, _, _, rfl, rfl, j + 1, rfl, rfl, by omega⟩
end BN
namespace BN
open PySem L2 PyProof.Rows
/-! ### work: what both need -/
structure WAt (S : PS') (K : PySem.W.Frag) (H : Hp) (v : V) (ap af : Addr) (pt : Part) (P : List Room) (fe : List Fn) : Prop where
  v : Dp K H v pt.enc
  p : PileAt S H ap P
  f : FunsAt S K H af fe
theorem WAt.fr {S : PS'} {K : PySem.W.Frag} {H H' : Hp} {C : CP} {v : V} {ap af : Addr} {pt : Part} {P : List Room} {fe : List Fn} (W : WAt S K H v ap af pt P fe) (hS : PStay S C) (hC : ∀ c kvs, ¬ C c (.dK kvs)) (f : Fr C H H') : WAt S K H' v ap af pt P fe :=
  ⟨Dp.fr f _ _ (tup_enc pt) W.v, W.p.fr hS hC f, FunsAt.fr hS hC f W.f⟩
structure WOk (n : Nat) (pt : Part) (P : List Room) (fe : List Fn) (ns : List Str) (m : Nat) : Prop where
  ok : pt.ok ns (arF fe)
  dom : ∀ x ∈ ns, hasR P x
  nw : ∀ x ∈ ns, wordB x = true
  env : EOk fe P
  dp : pt.dpt (dlt fe) ≤ n
  pl : P.length + pt.dpt (dlt fe) ≤ 1000
  fl : fe.length + pt.dpt (dlt fe) ≤ 1000
  wid : pt.wid ≤ 1000
  cst : m + pt.cst (cnt fe) ≤ 15000000
  ne : P ≠ []
abbrev dn (near : Bool) (pt : Part) (fe : List Fn) (P : List Room) : Out := den near pt (sem near fe) P
theorem dn_len (near : Bool) (pt : Part) (fe : List Fn) (P : List Room) : (dn near pt fe P).rows.length + (dn near pt fe P).said.length ≤ pt.cst (cnt fe) := den_len near pt _ P _ (sem_bnd near fe)
theorem TAt.say {K : PySem.W.Frag} {H : Hp} {r1 r2 : Addr} {rows : List Row} {said : List Int} (T : TAt K H r1 r2 rows said) (n : Int) : TAt K (upd H r2 (.lst (said.map V.int ++ [.int n]))) r1 r2 rows (said ++ [n]) := by
  obtain ⟨rv, h1, h2⟩ := T.rw
  have f : Fr (cT r1 r2) H (upd H r2 (.lst (said.map V.int ++ [.int n]))) := Fr.set T.sd ⟨.inr rfl, _, rfl⟩ trivial
  exact ⟨T.ne, ⟨rv, by rw [upd_ne T.ne]; exact h1, Dp.frs f _ _ (tup_rows _) h2⟩, by rw [upd_same, List.map_append]; rfl⟩
theorem PileAt.snocT {K : PySem.W.Frag} {H : Hp} {a d t : Addr} {P : List Room} {r : Room} {xs : List V} (h : PileAt (SqT K) H a P) (hd : H d = some (.dK (roomK r))) (hx : SqT K H a xs) (ht : SqT K H t (xs ++ [.ref d])) (hi : ∀ ys, SqT K H a ys → ys = xs) : PileAt (SqT K) H t (P ++ [r]) := by
  obtain ⟨ds, h1, h2, h3⟩ := h.ex
  have e := hi _ h1
  refine ⟨ds ++ [d], by rw [List.map_append, e]; exact ht, by simp [h2], fun k d' r' e1 e2 => ?_⟩
  by_cases hk : k < ds.length
  · rw [List.getElem?_append_left hk] at e1
    rw [List.getElem?_append_left (by omega)] at e2
    exact h3 k d' r' e1 e2
  · rw [List.getElem?_append_right (by omega)] at e1
    rw [List.getElem?_append_right (by omega)] at e2
    have : k - ds.length = 0 := by
      cases q : k - ds.length with
      | zero => rfl
      | succ m => rw [q] at e1; simp at e1
    rw [this] at e1
    rw [show k - P.length = 0 by omega] at e2
    have e1 : d = d' := by simpa using e1
    have e2 : r = r' := by simpa using e2
    subst e1 e2
    exact hd
theorem PileAt.snoc {S S2 : PS'} {H H' : Hp} {d t : Addr} {P : List Room} {r : Room} {ds : List Addr} (h2 : ds.length = P.length) (h3 : ∀ (k : Nat) (d : Addr) (r : Room), ds[k]? = some d → P[k]? = some r → H' d = some (.dK (roomK r))) (hd : H' d = some (.dK (roomK r))) (ht : S H' t (ds.map V.ref ++ [.ref d])) : PileAt S H' t (P ++ [r]) := by
  refine ⟨ds ++ [d], by rw [List.map_append]; exact ht, by simp [h2], fun k d' r' e1 e2 => ?_⟩
  by_cases hk : k < ds.length
  · rw [List.getElem?_append_left hk] at e1
    rw [List.getElem?_append_left (by omega)] at e2
    exact h3 k d' r' e1 e2
  · rw [List.getElem?_append_right (by omega)] at e1
    rw [List.getElem?_append_right (by omega)] at e2
    have : k - ds.length = 0 := by
      cases q : k - ds.length with
      | zero => rfl
      | succ m => rw [q] at e1; simp at e1
    rw [this] at e1
    rw [show k - P.length = 0 by omega] at e2
    have e1 : d = d' := by simpa using e1
    have e2 : r = r' := by simpa using e2
    subst e1 e2
    exact hd
theorem stayT {K : PySem.W.Frag} {C : CP} : PStay (SqT K) C := fun _ _ _ _ f h => f.sqT h
/-! ### work of the program -/
def spWork (K : PySem.W.Frag) (C : Addr) (n : Nat) : Sp := fun vs H Q _ => ∃ (p dx : Addr) (v : V) (ap af ar sa : Addr) (near : Bool) (pt : Part) (P : List Room) (fe : List Fn) (ns : List Str) (rows : List Row) (said : List Int), vs = [.ref p, v, .ref ap, .ref af] ∧
  H p = some (.ins C dx (flR near ar sa)) ∧ TAt K H ar sa rows said ∧ WAt (SqT K) K H v ap af pt P fe ∧ WOk n pt P fe ns (rows.length + said.length) ∧
  ∀ H', Fr (cT ar sa) H H' → TAt K H' ar sa (rows ++ (dn near pt fe P).rows) (said ++ (dn near pt fe P).said) → Q (.int (dn near pt fe P).v) H'
def spRCall (K : PySem.W.Frag) (C : Addr) (n : Nat) : Sp := fun vs H Q _ => ∃ (p dx : Addr) (v : V) (ap af ar sa : Addr) (near : Bool) (f : Str) (as : Parts) (P : List Room) (fe : List Fn) (ns : List Str) (rows : List Row) (said : List Int), vs = [.ref p, v, .ref ap, .ref af] ∧
  H p = some (.ins C dx (flR near ar sa)) ∧ TAt K H ar sa rows said ∧ WAt (SqT K) K H v ap af (.call f as) P fe ∧ WOk (n + 1) (.call f as) P fe ns (rows.length + said.length) ∧
  ∀ H', Fr (cT ar sa) H H' → TAt K H' ar sa (rows ++ (dn near (.call f as) fe P).rows) (said ++ (dn near (.call f as) fe P).said) → Q (.int (dn near (.call f as) fe P).v) H'
def t_work (K : PySem.W.Frag) (cRms : Addr) (n : Nat) : TS :=
  (tSeq (tAsg (tOp (rIxT K) (tVar 1) (tC (.int 0))) (gName 4))
    (tSeq (tIfS (tTest (tOp rEq (tVar 4) (tC (.str "num")))) (tRet (tOp (rIxT K) (tVar 1) (tC (.int 1)))) tNext)
    (tSeq (tIfS (tTest (tOp rEq (tVar 4) (tC (.str "name")))) (tRet (tMeth cRms "read" (spRead K cRms) [] C8.E0 (tVar 0) (tCons (tOp (rIxT K) (tVar 1) (tC (.int 1))) (tCons (tVar 2) tNil)))) tNext)
    (tSeq (tIfS (tTest (tOp rEq (tVar 4) (tC (.str "call")))) (tRet (tMeth cRms "call" (spRCall K cRms n) [] C8.E0 (tVar 0) (tCons (tVar 1) (tCons (tVar 2) (tCons (tVar 3) tNil))))) tNext)
    (tSeq (tIfS (tTest (tOp rEq (tVar 4) (tC (.str "fun")))) (tSeq (tAsg (tCB rDictD (tCons (tVar 3) tNil)) (gName 5))
    (tSeq (sDPut (tVar 5) (tOp (rIxT K) (tVar 1) (tC (.int 1))) (tTup (tCons (tOp (rIxT K) (tVar 1) (tC (.int 2))) (tCons (tOp (rIxT K) (tVar 1) (tC (.int 3))) (tCons (tVar 2) (tCons (tVar 3) tNil))))))
    (tRet (tMeth cRms "work" (spWork K cRms n) [] C8.E0 (tVar 0) (tCons (tOp (rIxT K) (tVar 1) (tC (.int 4))) (tCons (tVar 2) (tCons (tVar 5) tNil))))))) tNext)
    (tSeq (tAsg (tMeth cRms "work" (spWork K cRms n) [] C8.E0 (tVar 0) (tCons (tIf (tTest (tOp rEq (tVar 4) (tC (.str "let")))) (tOp (rIxT K) (tVar 1) (tC (.int 2))) (tOp (rIxT K) (tVar 1) (tC (.int 1)))) (tCons (tVar 2) (tCons (tVar 3) tNil)))) (gName 6))
    (tSeq (tIfS (tTest (tOp rEq (tVar 4) (tC (.str "let")))) (tRet (tMeth cRms "work" (spWork K cRms n) [] C8.E0 (tVar 0) (tCons (tOp (rIxT K) (tVar 1) (tC (.int 3))) (tCons (tOp (rCatT K) (tVar 2) (tTup (tCons (tDisp [((tOp (rIxT K) (tVar 1) (tC (.int 1))), (tVar 6))]) tNil))) (tCons (tVar 3) tNil))))) tNext)
    (tSeq (tIfS (tTest (tOp rEq (tVar 4) (tC (.str "say")))) (tSeq (tDrop (tBM K "list" rAppend (tFld K (tVar 0) "said") (tCons (tVar 6) tNil)))
    (tRet (tVar 6))) tNext)
    (tSeq (tIfS (tTest (tOp rEq (tVar 4) (tC (.str "if")))) (tRet (tMeth cRms "work" (spWork K cRms n) [] C8.E0 (tVar 0) (tCons (tIf (tTest (tOp rNe (tVar 6) (tC (.int 0)))) (tOp (rIxT K) (tVar 1) (tC (.int 2))) (tOp (rIxT K) (tVar 1) (tC (.int 3)))) (tCons (tVar 2) (tCons (tVar 3) tNil))))) tNext)
    (tSeq (tAsg (tMeth cRms "work" (spWork K cRms n) [] C8.E0 (tVar 0) (tCons (tOp (rIxT K) (tVar 1) (tC (.int 2))) (tCons (tVar 2) (tCons (tVar 3) tNil)))) (gName 7))
    (tRet (tIf (tTest (tOp rEq (tVar 4) (tC (.str "add")))) (tOp oMod (tOp oAdd (tVar 6) (tVar 7)) (tC (.int 100))) (tCB rInt1 (tCons (tOp oLt (tVar 6) (tVar 7)) tNil))))))))))))))
theorem pure_work {K : PySem.W.Frag} {C : Addr} {n : Nat} (T : RmsC K C) (vs : List V) (H : Hp) (Q : VK) (E : XK) (h : spWork K C (n + 1) vs H Q E) : t_work K C n { nx := fun _ H' => Q .non H', rt := Q } (start ["self", "part", "pile", "funs", "word", "known", "first", "other"] vs) H := by
  obtain ⟨p, dx, v, ap, af, ar, sa, near, pt, P, fe, ns, rows, said, rfl, hp, TA, W, O, k⟩ := h
  have sub : ∀ {H1 : Hp} {rows1 : List Row} {said1 : List Int} {q : Part} {u : V} {ap1 af1 : Addr} {P1 : List Room} {fe1 : List Fn} {ns1 : List Str} {R : VK}, H1 p = some (.ins C dx (flR near ar sa)) → TAt K H1 ar sa rows1 said1 → Dp K H1 u q.enc → PileAt (SqT K) H1 ap1 P1 → FunsAt (SqT K) K H1 af1 fe1 → WOk n q P1 fe1 ns1 (rows1.length + said1.length) →
      (∀ H', Fr (cT ar sa) H1 H' → H' p = some (.ins C dx (flR near ar sa)) → TAt K H' ar sa (rows1 ++ (dn near q fe1 P1).rows) (said1 ++ (dn near q fe1 P1).said) → R (.int (dn near q fe1 P1).v) H') → spWork K C n [.ref p, u, .ref ap1, .ref af1] H1 R C8.E0 :=
    fun {H1 rows1 said1 q u ap1 af1 P1 fe1 ns1 R} g1 g2 g3 g4 g5 g6 g7 => ⟨p, dx, u, ap1, af1, ar, sa, near, q, P1, fe1, ns1, rows1, said1, rfl, g1, g2, ⟨g3, g4, g5⟩, g6, fun H' f t => g7 H' f (f.at g1 cT_ins) t⟩
  have hS : ∀ {C : CP}, PStay (SqT K) C := stayT
  have hC : ∀ c kvs, ¬ cT ar sa c (.dK kvs) := fun _ _ => cT_dK
  obtain ⟨t, xs, rfl, hT, hx⟩ := inv_head W.v
  refine ⟨_, rfl, t, _, _, _, rfl, rfl, hT, atI_nat (j := 0) rfl, ?_⟩
  have o1 := O.dp; have o2 := O.pl; have o3 := O.fl; have o4 := O.wid; have o5 := O.cst
  have nosp : (flR near ar sa).lookup ("work" : Str) = none := flR_no _ _ _ (by decide +kernel) (by decide +kernel) (by decide +kernel)
  have norl : (flR near ar sa).lookup ("read" : Str) = none := flR_no _ _ _ (by decide +kernel) (by decide +kernel) (by decide +kernel)
  have nocl : (flR near ar sa).lookup ("call" : Str) = none := flR_no _ _ _ (by decide +kernel) (by decide +kernel) (by decide +kernel)
  cases pt with
  | num m =>
    obtain ⟨t', e, hT3⟩ := inv_num W.v
    cases e
    refine ⟨_, rfl, rfl, _, rfl, ifT (by kernel_rfl) ?_⟩
    exact ⟨_, rfl, t, _, _, _, rfl, rfl, hT3, rfl, k H (Fr.refl _) (by simpa [dn, den] using TA)⟩
  | name x =>
    obtain ⟨t', e, hT3⟩ := inv_name W.v
    cases e
    have hok := O.ok
    simp only [Part.ok] at hok
    simp only [Part.cst] at o5
    refine ⟨_, rfl, rfl, _, rfl, ifF (by kernel_rfl) ?_⟩
    refine ⟨_, rfl, rfl, _, rfl, ifT (by kernel_rfl) ?_⟩
    refine ⟨_, rfl, p, dx, _, rfl, hp, norl, _, rfl, t, _, _, _, rfl, rfl, hT3, rfl, _, rfl, p, dx, x, ap, P, ar, sa, near, rows, said, rfl, hp, TA, W.p, O.dom x hok, by omega, by omega, fun H' f t => ?_⟩
    exact k H' f (by simpa [dn, den] using t)
  | call f as =>
    refine ⟨_, rfl, rfl, _, rfl, ifF (by kernel_rfl) ?_⟩
    refine ⟨_, rfl, rfl, _, rfl, ifF (by kernel_rfl) ?_⟩
    refine ⟨_, rfl, rfl, _, rfl, ifT (by kernel_rfl) ?_⟩
    exact ⟨_, rfl, p, dx, _, rfl, hp, nocl, _, rfl, _, rfl, _, rfl, p, dx, .ref t, ap, af, ar, sa, near, f, as, P, fe, ns, rows, said, rfl, hp, TA, W, O, k⟩
  | fn f ps b r =>
    obtain ⟨t', tp, vb, vr, e, hT3, hTp, db, dr⟩ := inv_fn W.v
    cases e
    have hok := O.ok
    simp only [Part.ok] at hok
    simp only [Part.dpt] at o1 o2 o3
    simp only [Part.wid] at o4
    simp only [Part.cst] at o5
    refine ⟨_, rfl, rfl, _, rfl, ifF (by kernel_rfl) ?_⟩
    refine ⟨_, rfl, rfl, _, rfl, ifF (by kernel_rfl) ?_⟩
    refine ⟨_, rfl, rfl, _, rfl, ifF (by kernel_rfl) ?_⟩
    refine ⟨_, rfl, rfl, _, rfl, ifT (by kernel_rfl) ?_⟩
    obtain ⟨kvs, hk, hkl⟩ := W.f.dict
    refine ⟨_, rfl, af, kvs, rfl, .inl hk, fun kn hkn => ?_⟩
    have f1 : Fr c0 H (upd H kn (.dK kvs)) := Fr.new hkn
    have hT4 := f1.sqT hT3
    refine ⟨_, rfl, t, _, _, _, rfl, rfl, hT4, rfl, _, rfl, t, _, _, _, rfl, rfl, hT4, rfl, _, rfl, _, rfl, one_sz (by show 4 ≤ 1000; decide), fun tt htt => ?_⟩
    have f2 : Fr c0 (upd H kn (.dK kvs)) (upd (upd H kn (.dK kvs)) tt (.tup [.ref tp, vb, .ref ap, .ref af])) := Fr.new htt
    have nkt : kn ≠ tt := ne_of_none upd_same htt
    refine ⟨_, rfl, _, rfl, t, _, _, _, rfl, rfl, f2.sqT hT4, rfl, kn, _, rfl, DPut.k (k := Sum.inr f) (by rw [upd_ne nkt, upd_same]) (Nat.lt_of_lt_of_le (m := 2000) (by omega) (by rw [sizeLine_eq]; decide)), ?_⟩
    have f3 : Fr c0 H (upd (upd (upd H kn (.dK kvs)) tt (.tup [.ref tp, vb, .ref ap, .ref af])) kn (.dK (putK kvs (Sum.inr f) (.ref tt)))) := (f1.trans f2).fresh hkn
    have htt3 : (upd (upd (upd H kn (.dK kvs)) tt (.tup [.ref tp, vb, .ref ap, .ref af])) kn (.dK (putK kvs (Sum.inr f) (.ref tt)))) tt = some (.tup [.ref tp, vb, .ref ap, .ref af]) := by rw [upd_ne nkt.symm, upd_same]
    have hkn3 : (upd (upd (upd H kn (.dK kvs)) tt (.tup [.ref tp, vb, .ref ap, .ref af])) kn (.dK (putK kvs (Sum.inr f) (.ref tt)))) kn = some (.dK (putK kvs (Sum.inr f) (.ref tt))) := upd_same
    generalize (upd (upd (upd H kn (.dK kvs)) tt (.tup [.ref tp, vb, .ref ap, .ref af])) kn (.dK (putK kvs (Sum.inr f) (.ref tt)))) = H3 at f3 htt3 hkn3 ⊢
    have W3 := W.fr hS (fun _ _ z => z) f3
    have hT5 := f3.sqT hT3
    refine ⟨_, rfl, p, dx, _, rfl, f3.at hp (fun z => z), nosp, _, rfl, t, _, _, _, rfl, rfl, hT5, rfl, _, rfl, _, rfl, ?_⟩
    refine sub (fe1 := ⟨f, ps, b, P, ns⟩ :: fe) (ns1 := ns) (f3.at hp (fun z => z)) (TA.fr f3) (Dp.fr f3 _ _ (tup_enc r) dr) W3.p
      ⟨af, tt, tp, ap, vb, kvs, W3.f, f3.at hk (fun z => z), hkn3, SqT.of htt3, f3.sqT hTp, Dp.fr f3 _ _ (tup_enc b) db, W3.p⟩
      ⟨hok.2.2.2.2.2, O.dom, O.nw, ⟨O.env, O.env, O.dom, O.dom, hok.2.2.2.2.1, hok.2.2.1, hok.2.1, by show P.length + 1 + b.dpt (dlt fe) ≤ 1000; omega, by show fe.length + b.dpt (dlt fe) ≤ 1000; omega, by show b.wid ≤ 1000; omega, O.ne, fun x hx => ?_⟩, by simp only [dlt]; omega, by simp only [dlt]; omega, by simp only [dlt, List.length_cons]; omega, by omega, by simp only [cnt]; omega, O.ne⟩ fun H' f' hp' t => ?_
    · rcases List.mem_append.mp hx with z | z
      · exact O.nw x z
      · exact hok.2.2.2.1 x z
    · exact k H' ((Fr.of0 f3).trans f') t
  | lt x a b =>
    obtain ⟨t', va, vb, e, hT3, da, db⟩ := inv_lt W.v
    cases e
    have hok := O.ok
    simp only [Part.ok] at hok
    simp only [Part.dpt] at o1 o2 o3
    simp only [Part.wid] at o4
    simp only [Part.cst] at o5
    simp only [dn, den, Out.bnd] at k
    refine ⟨_, rfl, rfl, _, rfl, ifF (by kernel_rfl) ?_⟩
    refine ⟨_, rfl, rfl, _, rfl, ifF (by kernel_rfl) ?_⟩
    refine ⟨_, rfl, rfl, _, rfl, ifF (by kernel_rfl) ?_⟩
    refine ⟨_, rfl, rfl, _, rfl, ifF (by kernel_rfl) ?_⟩
    refine ⟨_, rfl, p, dx, _, rfl, hp, nosp, _, rfl, rfl, _, rfl, ifT (by kernel_rfl) ?_⟩
    refine ⟨_, rfl, t, _, _, _, rfl, rfl, hT3, rfl, _, rfl, _, rfl, ?_⟩
    have l1 := dn_len near a fe P
    refine ⟨p, dx, va, ap, af, ar, sa, near, a, P, fe, ns, rows, said, rfl, hp, TA, ⟨da, W.p, W.f⟩, ⟨hok.2.1, O.dom, O.nw, O.env, by omega, by omega, by omega, by omega, by omega, O.ne⟩, fun H1 f1 TA1 => ?_⟩
    have hp1 := f1.at hp cT_ins
    have W1 := W.fr hS hC f1
    refine ⟨_, rfl, rfl, _, rfl, ifT (by kernel_rfl) ?_⟩
    refine ⟨_, rfl, p, dx, _, rfl, hp1, nosp, _, rfl, t, _, _, _, rfl, rfl, f1.sqT hT3, rfl, _, rfl, fun d hd => ?_⟩
    have f2 : Fr c0 H1 (upd H1 d (.dK [])) := Fr.new hd
    refine ⟨_, rfl, t, _, _, _, rfl, rfl, (f1.trans (Fr.of0 f2)).sqT hT3, rfl, _, rfl, upd_same, [(Sum.inr x, .int (dn near a fe P).v)], rfl, (by show 1 ≤ 15; decide), ?_⟩
    have f3 : Fr c0 H1 (upd (upd H1 d (.dK [])) d (.dK (mergeK [] [(Sum.inr x, .int (dn near a fe P).v)]))) := f2.fresh hd
    have hd3 : (upd (upd H1 d (.dK [])) d (.dK (mergeK [] [(Sum.inr x, .int (dn near a fe P).v)]))) d = some (.dK (roomK [(x, (dn near a fe P).v)])) := by rw [upd_same]; rfl
    generalize (upd (upd H1 d (.dK [])) d (.dK (mergeK [] [(Sum.inr x, .int (dn near a fe P).v)]))) = H3 at f3 hd3 ⊢
    obtain ⟨ds, q1, q2, q3⟩ := (W1.p.fr hS (fun _ _ z => z) f3).ex
    refine ⟨one_sz (by show 1 ≤ 1000; decide), fun t2 ht2 => ?_⟩
    have f4 : Fr c0 H3 (upd H3 t2 (.tup [.ref d])) := Fr.new ht2
    have q1' := f4.sqT q1
    have nds : ds.map V.ref ≠ [] := fun z => O.ne (List.eq_nil_of_length_eq_zero (by have := congrArg List.length z; simp at this; rw [← q2, this]; rfl))
    refine ⟨ap, t2, _, [.ref d], rfl, rfl, q1', SqT.of upd_same, nds, one_sz (by rw [List.length_map, q2]; show P.length + 1 ≤ 1000; omega), (fun z => by simp at z), fun _ t3 ht3 => ?_⟩
    have f5 : Fr c0 (upd H3 t2 (.tup [.ref d])) (upd (upd H3 t2 (.tup [.ref d])) t3 (.tup (ds.map V.ref ++ [.ref d]))) := Fr.new ht3
    have f35 := f4.trans f5
    have f15 := f3.trans f35
    have W5 := W1.fr hS (fun _ _ z => z) f15
    refine ⟨_, rfl, ?_⟩
    have wx : ∀ y ∈ ns ++ [x], wordB y = true := fun y hy => by
      rcases List.mem_append.mp hy with z | z
      · exact O.nw y z
      · rw [List.mem_singleton.mp z]; exact hok.1
    have dx' : ∀ y ∈ ns ++ [x], hasR (P ++ [[(x, (dn near a fe P).v)]]) y := fun y hy => by
      rcases List.mem_append.mp hy with z | z
      · exact (O.dom y z).app _
      · rw [List.mem_singleton.mp z]; exact hasR.one _ _ _
    refine ⟨p, dx, vb, t3, af, ar, sa, near, b, P ++ [[(x, (dn near a fe P).v)]], fe, ns ++ [x], rows ++ (dn near a fe P).rows, said ++ (dn near a fe P).said, rfl, f15.at hp1 (fun z => z), TA1.fr f15, ⟨Dp.fr (f1.trans (Fr.of0 f15)) _ _ (tup_enc b) db,
      (PileAt.snoc (S := SqT K) (S2 := SqT K) (H := H) q2 (fun k d r e1 e2 => f35.at (q3 k d r e1 e2) (fun z => z)) (f35.at hd3 (fun z => z)) (SqT.of upd_same)), W5.f⟩,
      ⟨hok.2.2, dx', wx, O.env.mono fun y hy => hy.app _, by omega, by rw [List.length_append]; show P.length + 1 + _ ≤ _; omega, by omega, by omega, by rw [List.length_append, List.length_append]; omega, by simp⟩, fun H6 f6 TA6 => ?_⟩
    exact k H6 ((f1.trans (Fr.of0 f15)).trans f6) (by simpa only [dn, List.append_assoc] using TA6)
  | say a =>
    obtain ⟨t', va, e, hT3, da⟩ := inv_say W.v
    cases e
    have hok := O.ok
    simp only [Part.ok] at hok
    simp only [Part.dpt] at o1 o2 o3
    simp only [Part.wid] at o4
    simp only [Part.cst] at o5
    simp only [dn, den, Out.bnd] at k
    refine ⟨_, rfl, rfl, _, rfl, ifF (by kernel_rfl) ?_⟩
    refine ⟨_, rfl, rfl, _, rfl, ifF (by kernel_rfl) ?_⟩
    refine ⟨_, rfl, rfl, _, rfl, ifF (by kernel_rfl) ?_⟩
    refine ⟨_, rfl, rfl, _, rfl, ifF (by kernel_rfl) ?_⟩
    refine ⟨_, rfl, p, dx, _, rfl, hp, nosp, _, rfl, rfl, _, rfl, ifF (by kernel_rfl) ?_⟩
    refine ⟨_, rfl, t, _, _, _, rfl, rfl, hT3, rfl, _, rfl, _, rfl, ?_⟩
    have l1 := dn_len near a fe P
    refine ⟨p, dx, va, ap, af, ar, sa, near, a, P, fe, ns, rows, said, rfl, hp, TA, ⟨da, W.p, W.f⟩, ⟨hok, O.dom, O.nw, O.env, by omega, by omega, by omega, by omega, by omega, O.ne⟩, fun H1 f1 TA1 => ?_⟩
    have hp1 := f1.at hp cT_ins
    refine ⟨_, rfl, rfl, _, rfl, ifF (by kernel_rfl) ?_⟩
    refine ⟨_, rfl, rfl, _, rfl, ifT (by kernel_rfl) ?_⟩
    refine ⟨_, rfl, p, C, dx, _, _, rfl, hp1, T.cl, T.nS, flR_said _ _ _, .inl ⟨rfl, _, SqL.of TA1.sd⟩, _, rfl, sa, _, _, rfl, rfl, TA1.sd, Nat.lt_of_lt_of_le (m := 16000000) (by rw [List.length_map, List.length_append]; omega) (by rw [sizeLine_eq]; decide), _, rfl, ?_⟩
    refine k _ (f1.trans (Fr.set TA1.sd ⟨.inr rfl, _, rfl⟩ trivial)) ?_
    simpa only [dn, List.append_assoc, List.append_nil] using TA1.say (dn near a fe P).v
  | ite c a b =>
    obtain ⟨t', vc, va, vb, e, hT3, dc, da, db⟩ := inv_ite W.v
    cases e
    have hok := O.ok
    simp only [Part.ok] at hok
    simp only [Part.dpt] at o1 o2 o3
    simp only [Part.wid] at o4
    simp only [Part.cst] at o5
    simp only [dn, den, Out.bnd] at k
    refine ⟨_, rfl, rfl, _, rfl, ifF (by kernel_rfl) ?_⟩
    refine ⟨_, rfl, rfl, _, rfl, ifF (by kernel_rfl) ?_⟩
    refine ⟨_, rfl, rfl, _, rfl, ifF (by kernel_rfl) ?_⟩
    refine ⟨_, rfl, rfl, _, rfl, ifF (by kernel_rfl) ?_⟩
    refine ⟨_, rfl, p, dx, _, rfl, hp, nosp, _, rfl, rfl, _, rfl, ifF (by kernel_rfl) ?_⟩
    refine ⟨_, rfl, t, _, _, _, rfl, rfl, hT3, rfl, _, rfl, _, rfl, ?_⟩
    have l1 := dn_len near c fe P
    refine ⟨p, dx, vc, ap, af, ar, sa, near, c, P, fe, ns, rows, said, rfl, hp, TA, ⟨dc, W.p, W.f⟩, ⟨hok.1, O.dom, O.nw, O.env, by omega, by omega, by omega, by omega, by omega, O.ne⟩, fun H1 f1 TA1 => ?_⟩
    have hp1 := f1.at hp cT_ins
    have W1 := W.fr hS hC f1
    refine ⟨_, rfl, rfl, _, rfl, ifF (by kernel_rfl) ?_⟩
    refine ⟨_, rfl, rfl, _, rfl, ifF (by kernel_rfl) ?_⟩
    refine ⟨_, rfl, rfl, _, rfl, ifT (by kernel_rfl) ?_⟩
    refine ⟨_, rfl, p, dx, _, rfl, hp1, nosp, _, rfl, rfl, _, rfl, ?_⟩
    by_cases hz : (dn near c fe P).v = 0
    · refine ifF (by rw [hz]; decide +kernel) ⟨_, rfl, t, _, _, _, rfl, rfl, f1.sqT hT3, rfl, _, rfl, _, rfl, ?_⟩
      rw [if_pos hz] at k
      refine ⟨p, dx, vb, ap, af, ar, sa, near, b, P, fe, ns, rows ++ (dn near c fe P).rows, said ++ (dn near c fe P).said, rfl, hp1, TA1, ⟨(Dp.fr f1 _ _ (tup_enc b) db), W1.p, W1.f⟩, ⟨hok.2.2, O.dom, O.nw, O.env, by omega, by omega, by omega, by omega, by rw [List.length_append, List.length_append]; omega, O.ne⟩, fun H2 f2 TA2 => ?_⟩
      have hp2 := f2.at hp1 cT_ins
      exact k H2 (f1.trans f2) (by simpa only [dn, List.append_assoc] using TA2)
    · have e0 : (!decide (V.int (dn near c fe P).v = V.int 0)) = true := by
        rw [decide_eq_false fun z => hz (V.int.inj z)]; rfl
      refine ifT e0 ⟨_, rfl, t, _, _, _, rfl, rfl, f1.sqT hT3, rfl, _, rfl, _, rfl, ?_⟩
      rw [if_neg hz] at k
      refine ⟨p, dx, va, ap, af, ar, sa, near, a, P, fe, ns, rows ++ (dn near c fe P).rows, said ++ (dn near c fe P).said, rfl, hp1, TA1, ⟨(Dp.fr f1 _ _ (tup_enc a) da), W1.p, W1.f⟩, ⟨hok.2.1, O.dom, O.nw, O.env, by omega, by omega, by omega, by omega, by rw [List.length_append, List.length_append]; omega, O.ne⟩, fun H2 f2 TA2 => ?_⟩
      have hp2 := f2.at hp1 cT_ins
      exact k H2 (f1.trans f2) (by simpa only [dn, List.append_assoc] using TA2)
  | add a b =>
    obtain ⟨t', va, vb, e, hT3, da, db⟩ := inv_add W.v
    cases e
    have hok := O.ok
    simp only [Part.ok] at hok
    simp only [Part.dpt] at o1 o2 o3
    simp only [Part.wid] at o4
    simp only [Part.cst] at o5
    simp only [dn, den, Out.bnd] at k
    refine ⟨_, rfl, rfl, _, rfl, ifF (by kernel_rfl) ?_⟩
    refine ⟨_, rfl, rfl, _, rfl, ifF (by kernel_rfl) ?_⟩
    refine ⟨_, rfl, rfl, _, rfl, ifF (by kernel_rfl) ?_⟩
    refine ⟨_, rfl, rfl, _, rfl, ifF (by kernel_rfl) ?_⟩
    refine ⟨_, rfl, p, dx, _, rfl, hp, nosp, _, rfl, rfl, _, rfl, ifF (by kernel_rfl) ?_⟩
    refine ⟨_, rfl, t, _, _, _, rfl, rfl, hT3, rfl, _, rfl, _, rfl, ?_⟩
    have l1 := dn_len near a fe P
    refine ⟨p, dx, va, ap, af, ar, sa, near, a, P, fe, ns, rows, said, rfl, hp, TA, ⟨da, W.p, W.f⟩, ⟨hok.1, O.dom, O.nw, O.env, by omega, by omega, by omega, by omega, by omega, O.ne⟩, fun H1 f1 TA1 => ?_⟩
    have hp1 := f1.at hp cT_ins
    have W1 := W.fr hS hC f1
    refine ⟨_, rfl, rfl, _, rfl, ifF (by kernel_rfl) ?_⟩
    refine ⟨_, rfl, rfl, _, rfl, ifF (by kernel_rfl) ?_⟩
    refine ⟨_, rfl, rfl, _, rfl, ifF (by kernel_rfl) ?_⟩
    refine ⟨_, rfl, p, dx, _, rfl, hp1, nosp, _, rfl, t, _, _, _, rfl, rfl, f1.sqT hT3, rfl, _, rfl, _, rfl, ?_⟩
    refine ⟨p, dx, vb, ap, af, ar, sa, near, b, P, fe, ns, rows ++ (dn near a fe P).rows, said ++ (dn near a fe P).said, rfl, hp1, TA1, ⟨(Dp.fr f1 _ _ (tup_enc b) db), W1.p, W1.f⟩, ⟨hok.2, O.dom, O.nw, O.env, by omega, by omega, by omega, by omega, by rw [List.length_append, List.length_append]; omega, O.ne⟩, fun H2 f2 TA2 => ?_⟩
    have hp2 := f2.at hp1 cT_ins
    refine ⟨_, rfl, rfl, _, rfl, ifT (by kernel_rfl) ⟨_, rfl, _, rfl, _, _, rfl, rfl, _, _, rfl, rfl, (by show (0 : Int) < 100; decide), ?_⟩⟩
    exact k H2 (f1.trans f2) (by simpa only [dn, List.append_assoc, List.append_nil] using TA2)
  | less a b =>
    obtain ⟨t', va, vb, e, hT3, da, db⟩ := inv_less W.v
    cases e
    have hok := O.ok
    simp only [Part.ok] at hok
    simp only [Part.dpt] at o1 o2 o3
    simp only [Part.wid] at o4
    simp only [Part.cst] at o5
    simp only [dn, den, Out.bnd] at k
    refine ⟨_, rfl, rfl, _, rfl, ifF (by kernel_rfl) ?_⟩
    refine ⟨_, rfl, rfl, _, rfl, ifF (by kernel_rfl) ?_⟩
    refine ⟨_, rfl, rfl, _, rfl, ifF (by kernel_rfl) ?_⟩
    refine ⟨_, rfl, rfl, _, rfl, ifF (by kernel_rfl) ?_⟩
    refine ⟨_, rfl, p, dx, _, rfl, hp, nosp, _, rfl, rfl, _, rfl, ifF (by kernel_rfl) ?_⟩
    refine ⟨_, rfl, t, _, _, _, rfl, rfl, hT3, rfl, _, rfl, _, rfl, ?_⟩
    have l1 := dn_len near a fe P
    refine ⟨p, dx, va, ap, af, ar, sa, near, a, P, fe, ns, rows, said, rfl, hp, TA, ⟨da, W.p, W.f⟩, ⟨hok.1, O.dom, O.nw, O.env, by omega, by omega, by omega, by omega, by omega, O.ne⟩, fun H1 f1 TA1 => ?_⟩
    have hp1 := f1.at hp cT_ins
    have W1 := W.fr hS hC f1
    refine ⟨_, rfl, rfl, _, rfl, ifF (by kernel_rfl) ?_⟩
    refine ⟨_, rfl, rfl, _, rfl, ifF (by kernel_rfl) ?_⟩
    refine ⟨_, rfl, rfl, _, rfl, ifF (by kernel_rfl) ?_⟩
    refine ⟨_, rfl, p, dx, _, rfl, hp1, nosp, _, rfl, t, _, _, _, rfl, rfl, f1.sqT hT3, rfl, _, rfl, _, rfl, ?_⟩
    refine ⟨p, dx, vb, ap, af, ar, sa, near, b, P, fe, ns, rows ++ (dn near a fe P).rows, said ++ (dn near a fe P).said, rfl, hp1, TA1, ⟨(Dp.fr f1 _ _ (tup_enc b) db), W1.p, W1.f⟩, ⟨hok.2, O.dom, O.nw, O.env, by omega, by omega, by omega, by omega, by rw [List.length_append, List.length_append]; omega, O.ne⟩, fun H2 f2 TA2 => ?_⟩
    have hp2 := f2.at hp1 cT_ins
    refine ⟨_, rfl, rfl, _, rfl, ifF (by kernel_rfl) ⟨_, rfl, _, rfl, _, _, rfl, rfl, .inr ⟨_, rfl, ?_⟩⟩⟩
    have ei : (if decide ((dn near a fe P).v < (dn near b fe P).v) = true then (1 : Int) else 0) = if (dn near a fe P).v < (dn near b fe P).v then 1 else 0 := by simp only [decide_eq_true_eq]
    rw [ei]
    exact k H2 (f1.trans f2) (by simpa only [dn, List.append_assoc, List.append_nil] using TA2)
end BN
namespace BN
open PySem L2 PyProof.Rows
/-! ### a call -/
theorem dens_take (near : Bool) {e : SEnv} {P : List Room} {d : Str → Nat} (hb : Bnd e d) : ∀ {as : Parts} {i : Nat} {q : Part}, as.list[i]? = some q → (((dens near as e P).take i).flatMap (·.rows)).length + (((dens near as e P).take i).flatMap (·.said)).length + q.cst d ≤ as.cst d
  | .nil, i, q, h => by simp [Parts.list] at h
  | .cons p r, 0, q, h => by
    have e : p = q := by simpa [Parts.list] using h
    subst e
    simp [Parts.cst]
  | .cons p r, i + 1, q, h => by
    have ih := dens_take near (P := P) hb (as := r) (i := i) (q := q) (by simpa [Parts.list] using h)
    have h1 := den_len near p e P d hb
    simp only [Out.len] at h1
    simp only [dens, List.take_succ_cons, List.flatMap_cons, List.length_append, Parts.cst]
    omega
theorem paired_of {α β : Type} {F : α → β → Prop} : ∀ {xs : List α} {ys : List β}, xs.length = ys.length → (∀ (j : Nat) (x : α) (y : β), xs[j]? = some x → ys[j]? = some y → F x y) → Paired F xs ys
  | [], [], _, _ => .nil
  | [], _ :: _, h, _ => by simp at h
  | _ :: _, [], h, _ => by simp at h
  | x :: xs, y :: ys, h, k => .cons (k 0 x y rfl rfl) (paired_of (by simpa using h) fun j a b h1 h2 => k (j + 1) a b (by simpa using h1) (by simpa using h2))
/-- the pairs of a zip -/
theorem zip_paired {K : PySem.W.Frag} {H : Hp} {ps : List Str} {vs : List Int} {ts : List Addr} (hl : ps.length = vs.length) (ht : ts.length = ps.length) (h : ∀ (j : Nat) (t : Addr), ts[j]? = some t → ∃ x y, (ps.map V.str)[j]? = some x ∧ (vs.map V.int)[j]? = some y ∧ H t = some (.tup [x, y])) :
    Paired (fun p kv => SqT K H p [kV kv.1, kv.2]) ts (roomK (ps.zip vs)) := by
  refine paired_of (by unfold roomK; rw [List.length_map, List.length_zip]; omega) fun j t kv h1 h2 => ?_
  obtain ⟨x, y, e1, e2, e3⟩ := h j t h1
  unfold roomK at h2
  obtain ⟨⟨a, b⟩, h3, rfl⟩ := map_at h2
  rw [List.getElem?_zip_eq_some] at h3
  rw [List.getElem?_map, h3.1] at e1
  rw [List.getElem?_map, h3.2] at e2
  cases e1; cases e2
  exact SqT.of e3
def t_rcall (K : PySem.W.Frag) (cRms : Addr) (n : Nat) : TS :=
  (tSeq (tAsg (tLc (iTup K (tOp (rIxT K) (tVar 1) (tC (.int 2)))) (gName 10) tYes (tMeth cRms "work" (spWork K cRms n) [] C8.E0 (tVar 0) (tCons (tVar 10) (tCons (tVar 2) (tCons (tVar 3) tNil)))) [10]) (gName 4))
    (tSeq (tAsg (tDGet (tVar 3) (tOp (rIxT K) (tVar 1) (tC (.int 1)))) (gTup K 4 (gCons (gName 5) (gCons (gName 6) (gCons (gName 7) (gCons (gName 8) gNil))))))
    (tSeq (tAsg (tCB (rDictP K) (tCons (BNZ.tLZ K (tCons (tVar 5) (tCons (tVar 4) tNil))) tNil)) (gName 9))
    (tRet (tMeth cRms "work" (spWork K cRms n) [] C8.E0 (tVar 0) (tCons (tVar 6) (tCons (tOp (rCatT K) (tIf (tB (tFld K (tVar 0) "is_near")) (tVar 7) (tVar 2)) (tTup (tCons (tVar 9) tNil))) (tCons (tVar 8) tNil))))))))
theorem pure_rcall {K : PySem.W.Frag} {C : Addr} {n : Nat} (T : RmsC K C) (vs : List V) (H : Hp) (Q : VK) (E : XK) (h : spRCall K C (n + 1) vs H Q E) :
    t_rcall K C n { nx := fun _ H' => Q .non H', rt := Q } (start ["self", "part", "pile", "funs", "numbers", "params", "body", "home", "known", "room", "one"] vs) H := by
  obtain ⟨p, dx, v, ap, af, ar, sa, near, f, as, P, fe, ns, rows, said, rfl, hp, TA, W, O, k⟩ := h
  obtain ⟨t, ta, ws, rfl, hT, hA, da⟩ := inv_call W.v
  have hS : ∀ {C : CP}, PStay (SqT K) C := stayT
  have hC : ∀ c kvs, ¬ cT ar sa c (.dK kvs) := fun _ _ => cT_dK
  have o1 := O.dp; have o2 := O.pl; have o3 := O.fl; have o4 := O.wid; have o5 := O.cst
  have hok := O.ok
  simp only [Part.ok] at hok
  simp only [Part.dpt] at o1 o2 o3
  simp only [Part.wid] at o4
  simp only [Part.cst] at o5
  have hb := sem_bnd near fe
  have nosp : (flR near ar sa).lookup ("work" : Str) = none := flR_no _ _ _ (by decide +kernel) (by decide +kernel) (by decide +kernel)
  obtain ⟨os, hos⟩ : ∃ os, os = dens near as (sem near fe) P := ⟨_, rfl⟩
  have los : os = as.list.map fun q => dn near q fe P := by rw [hos, dens_list]
  have lw : ws.length = as.list.length := by rw [da.len, List.length_map]
  have lo : os.length = as.list.length := by rw [los, List.length_map]
  have la := Parts.list_len as
  refine ⟨_, rfl, t, _, _, _, rfl, rfl, hT, rfl, ta, rfl, ⟨_, hA⟩, ?_⟩
  refine lcJ_tup (K := K) (a := ta) (xs := ws) (C := cT ar sa) (I := fun i H' => H' p = some (.ins C dx (flR near ar sa)) ∧ TAt K H' ar sa (rows ++ (os.take i).flatMap (·.rows)) (said ++ (os.take i).flatMap (·.said))) (Good := fun i d => ∃ q, as.list[i]? = some q ∧ d = .int (dn near q fe P).v)
    hA (fun i H' D ys hD fD ⟨g1, g2⟩ => ?_) (fun D o hD z => ?_) ⟨hp, by simpa using TA⟩ (by omega) (fun i x hi H' f' ⟨hp', TA'⟩ Q' hQ => ?_) fun D vs ds H2 hD e2 da2 dl dg f2 ⟨hp2, TA2⟩ => ?_
  · have n1 : D ≠ p := fun z => by rw [z, hp] at hD; cases hD
    have n2 : D ≠ ar := fun z => by obtain ⟨rv, h1, _⟩ := TA.rw; rw [z, h1] at hD; cases hD
    have n3 : D ≠ sa := fun z => by rw [z, TA.sd] at hD; cases hD
    exact ⟨by rw [upd_ne n1.symm]; exact g1, g2.new n2 n3 fD⟩
  · obtain ⟨z | z, _⟩ := z
    · obtain ⟨rv, h1, _⟩ := TA.rw
      rw [z, h1] at hD; cases hD
    · rw [z, TA.sd] at hD; cases hD
  · obtain ⟨dd, hdd, Dx⟩ := da.getV hi
    obtain ⟨q, hq, rfl⟩ := map_at hdd
    have hm := List.mem_of_getElem? hq
    have W' := W.fr hS hC f'
    have c1 := dens_take near hb (P := P) hq
    rw [← hos] at c1
    have d1 := dpt_list (d := dlt fe) hm
    have w1 := wid_list as q hm
    refine ⟨_, rfl, p, dx, _, rfl, hp', nosp, _, rfl, _, rfl, _, rfl, p, dx, x, ap, af, ar, sa, near, q, P, fe, ns, _, _, rfl, hp', TA', ⟨Dp.fr f' _ _ (tup_enc q) Dx, W'.p, W'.f⟩, ⟨parts_in hok.2 q hm, O.dom, O.nw, O.env, by omega, by omega, by omega, by omega, by rw [List.length_append, List.length_append]; omega, O.ne⟩, fun H3 f3 T3 => ?_⟩
    refine hQ (.int (dn near q fe P).v) _ _ ⟨q, hq, rfl⟩ rfl (.int _) f3 ⟨f3.at hp' cT_ins, ?_⟩
    have hoi : os[i]? = some (dn near q fe P) := by rw [los, List.getElem?_map, hq]; rfl
    rw [take_more hoi]
    simpa only [List.flatMap_append, List.flatMap_cons, List.flatMap_nil, List.append_nil, List.append_assoc] using T3
  · have hds : ds = (os.map (·.v)).map PyData.int := by
      rw [los, List.map_map, List.map_map]
      exact eq_map_of_at (by rw [dl, lw]) fun k d hk => (dg k d hk).1
    rw [hds] at da2
    have hvs := da2.ints_inv
    subst hvs
    rw [lw, ← lo, List.take_length] at TA2
    have hTA2 := TA2
    have W2 := W.fr hS hC f2
    obtain ⟨e, tl, l, rfl, ef, hl, hpl, hE, hdl, hcn, hsm⟩ := env_at near hok.1 O.env
    obtain ⟨kvs, kn, tt, tp, ph, vb, g1, g2, g3, g4, g5, g6, g7⟩ := FunsAt.get W2.f fun x hx => by rw [ef]; exact hl x hx
    rw [ef] at g2
    have lvs : (os.map (·.v)).length = as.len := by rw [List.length_map, lo, la]
    refine ⟨_, rfl, _, rfl, t, _, _, _, rfl, rfl, f2.sqT hT, rfl, af, _, rfl, by have := DGet.k (k := Sum.inr f) g1; rw [g2] at this; exact this, tt, _, rfl, g4, rfl, _, _, rfl, _, _, rfl, _, _, rfl, _, _, rfl, rfl, ?_⟩
    refine ⟨_, rfl, _, rfl, tp, D, _, _, rfl, .inr g5, .inl (SqL.of e2), by rw [List.length_map, List.length_map]; omega, fun H3 L ts f3 hL eL el hts => ⟨L, ts, roomK (e.ps.zip (os.map (·.v))), rfl, SqL.of eL, zip_paired (by omega) (by rw [el, List.length_map]) (fun j t h => (hts j t h).2.2), fun q hq => ?_⟩⟩
    obtain ⟨E1, E2, E3, E4, E5, E6, E7, E8, E9, E10, E11, E12⟩ := id hE
    rw [merge_zip E6 (by omega)]
    have f4 : Fr c0 H2 (upd H3 q (.dK (roomK (e.ps.zip (os.map (·.v)))))) := f3.trans (Fr.new hq)
    have hq4 : (upd H3 q (.dK (roomK (e.ps.zip (os.map (·.v)))))) q = some (.dK (roomK (e.ps.zip (os.map (·.v))))) := upd_same
    generalize (upd H3 q (.dK (roomK (e.ps.zip (os.map (·.v)))))) = H4 at f4 hq4 ⊢
    have hp4 := f4.at hp2 (fun z => z)
    have TA4 := TA2.fr f4
    have P4 := W2.p.fr hS (fun _ _ z => z) f4
    have G4 := g7.fr hS (fun _ _ z => z) f4
    have F4 := FunsAt.fr hS (fun _ _ z => z) f4 g3
    have B4 := Dp.fr f4 _ _ (tup_enc _) g6
    have cd := dens_len near as (sem near (l ++ e :: tl)) P _ hb
    rw [← hos] at cd
    obtain ⟨pb, PB, hPB, hsel⟩ : ∃ (pb : Addr) (PB : List Room), (PB = (if near = true then e.home else P) ∧ PileAt (SqT K) H4 pb PB ∧ PB ≠ [] ∧ EOk tl PB ∧ (∀ x ∈ e.ns, hasR PB x) ∧ PB.length + 1 + e.b.dpt (dlt tl) ≤ 1000) ∧
        ∀ R : VK, R (.ref pb) H4 → tIf (tB (tFld K (tVar 0) "is_near")) (tVar 7) (tVar 2) [some (.ref p), some (.ref t), some (.ref ap), some (.ref af), some (.ref D), some (.ref tp), some vb, some (.ref ph), some (.ref kn), some (.ref q), none] H4 R := by
      cases near with
      | true => exact ⟨ph, e.home, ⟨rfl, G4, E11, E2, E4, by omega⟩, fun R hR => ⟨_, rfl, p, C, dx, _, _, rfl, hp4, T.cl, T.nN, flR_near _ _ _, _, rfl, ifT rfl ⟨_, rfl, hR⟩⟩⟩
      | false => exact ⟨ap, P, ⟨rfl, P4, O.ne, E1, E3, by omega⟩, fun R hR => ⟨_, rfl, p, C, dx, _, _, rfl, hp4, T.cl, T.nN, flR_near _ _ _, _, rfl, ifF rfl ⟨_, rfl, hR⟩⟩⟩
    obtain ⟨ePB, PB4, nePB, ePB2, dPB, lPB⟩ := hPB
    obtain ⟨dsp, q1, q2, q3⟩ := PB4.ex
    refine ⟨_, rfl, p, dx, _, rfl, hp4, nosp, _, rfl, hsel _ ⟨_, rfl, one_sz (by show 1 ≤ 1000; decide), fun t2 ht2 => ?_⟩⟩
    have f5 : Fr c0 H4 (upd H4 t2 (.tup [.ref q])) := Fr.new ht2
    have nds : dsp.map V.ref ≠ [] := fun z => nePB (List.eq_nil_of_length_eq_zero (by have := congrArg List.length z; simp at this; rw [← q2, this]; rfl))
    refine ⟨pb, t2, _, [.ref q], rfl, rfl, f5.sqT q1, SqT.of upd_same, nds, one_sz (by rw [List.length_map, q2]; show PB.length + 1 ≤ 1000; omega), (fun z => by simp at z), fun _ t3 ht3 => ?_⟩
    have f6 : Fr c0 (upd H4 t2 (.tup [.ref q])) (upd (upd H4 t2 (.tup [.ref q])) t3 (.tup (dsp.map V.ref ++ [.ref q]))) := Fr.new ht3
    have f46 := f5.trans f6
    have dx' : ∀ y ∈ e.ns ++ e.ps, hasR (PB ++ [e.ps.zip (os.map (·.v))]) y := fun y hy => by
      rcases List.mem_append.mp hy with z | z
      · exact (dPB y z).app _
      · exact hasR.zip (by omega) z
    refine ⟨_, rfl, p, dx, vb, t3, kn, ar, sa, near, e.b, PB ++ [e.ps.zip (os.map (·.v))], tl, e.ns ++ e.ps, _, _, rfl, f46.at hp4 (fun z => z), TA4.fr f46, ⟨Dp.fr f46 _ _ (tup_enc _) B4, PileAt.snoc (S := SqT K) (S2 := SqT K) (H := H) q2 (fun k d r e1 e2 => f46.at (q3 k d r e1 e2) (fun z => z)) (f46.at hq4 (fun z => z)) (SqT.of upd_same), FunsAt.fr hS (fun _ _ z => z) f46 F4⟩,
      ⟨E5, dx', E12, ePB2.mono fun y hy => hy.app _, by omega, by rw [List.length_append]; show PB.length + 1 + _ ≤ _; omega, by omega, by omega, by rw [List.length_append, List.length_append]; omega, by simp⟩, fun H7 f7 TA7 => ?_⟩
    have ev : dn near (.call f as) (l ++ e :: tl) P = ⟨(dn near e.b tl (PB ++ [e.ps.zip (os.map (·.v))])).v, os.flatMap (·.rows) ++ (dn near e.b tl (PB ++ [e.ps.zip (os.map (·.v))])).rows, os.flatMap (·.said) ++ (dn near e.b tl (PB ++ [e.ps.zip (os.map (·.v))])).said⟩ := by
      simp only [dn, den, hsm, ← hos, ← ePB]
    rw [ev] at k
    exact k H7 (((f2.trans (Fr.of0 f4)).trans (Fr.of0 f46)).trans f7) (by simpa only [List.append_assoc] using TA7)
end BN
namespace BN
open PySem L2 PyProof.Rows
/-! ### a whole run -/
structure RunOk (ins : List Str) (pt : Part) (ns : List Int) : Prop where
  ok : ProgOk ins pt
  len : ns.length = ins.length
  rg : ∀ n ∈ ns, 0 ≤ n ∧ n ≤ 99
  dp : pt.dpt (fun _ => 0) ≤ 130
  cst : pt.cst (fun _ => 0) ≤ 15000000
abbrev mean (near : Bool) (ins : List Str) (pt : Part) (ns : List Int) : Out := dn near pt [] [ins.zip ns]
theorem RunOk.w {ins : List Str} {pt : Part} {ns : List Int} (h : RunOk ins pt ns) : WOk 130 pt [ins.zip ns] [] ins (([] : List Row).length + ([] : List Int).length) := by
  have := h.dp
  have := h.cst
  have := h.ok.wid
  refine ⟨h.ok.ok, fun x hx => ?_, h.ok.iw, trivial, h.dp, ?_, ?_, by omega, ?_, by simp⟩
  · have := hasR.zip (P := []) (by rw [h.len] : ins.length = ns.length) hx
    simpa using this
  · show 1 + pt.dpt (fun _ => 0) ≤ 1000; omega
  · show 0 + pt.dpt (fun _ => 0) ≤ 1000; omega
  · show 0 + 0 + pt.cst (fun _ => 0) ≤ 15000000; omega
def spGone (K : PySem.W.Frag) (C : Addr) : Sp := fun vs H Q _ => ∃ (v : V) (tn : Addr) (me : Str) (ins : List Str) (pt : Part) (ns : List Int), vs = [v, .ref tn, .str me] ∧ Dp K H v (encP ins pt) ∧ SqT K H tn (ns.map V.int) ∧ RunOk ins pt ns ∧
  ∀ (t p dx ar sa : Addr) H', Fr c0 H H' → H p = none → H ar = none → H sa = none → SqT K H' t [.ref p, .int (mean (decide (me = "near")) ins pt ns).v] → H' p = some (.ins C dx (flR (decide (me = "near")) ar sa)) →
    TAt K H' ar sa (mean (decide (me = "near")) ins pt ns).rows (mean (decide (me = "near")) ins pt ns).said → Q (.ref t) H'
def t_gone (K : PySem.W.Frag) (cRms : Addr) : TS :=
  (tSeq (tAsg (tMake cRms (spRmInit cRms) [] C8.E0 (tCons (tVar 2) tNil)) (gName 3))
    (tSeq (tAsg (tCB (rDictP K) (tCons (BNZ.tLZ K (tCons (tOp (rIxT K) (tVar 0) (tC (.int 0))) (tCons (tVar 1) tNil))) tNil)) (gName 4))
    (tRet (tTup (tCons (tVar 3) (tCons (tMeth cRms "work" (spWork K cRms 130) [] C8.E0 (tVar 3) (tCons (tOp (rIxT K) (tVar 0) (tC (.int 1))) (tCons (tTup (tCons (tVar 4) tNil)) (tCons tDNewK tNil)))) tNil))))))
theorem pure_gone {K : PySem.W.Frag} {C : Addr} (T : RmsC K C) (vs : List V) (H : Hp) (Q : VK) (E : XK) (h : spGone K C vs H Q E) : t_gone K C { nx := fun _ H' => Q .non H', rt := Q } (start ["program", "numbers", "meaning", "rooms", "room"] vs) H := by
  obtain ⟨v, tn, me, ins, pt, ns, rfl, hd, hN, O, k⟩ := h
  obtain ⟨t, ti, vp, rfl, hT, hI, dp⟩ := inv_P hd
  refine ⟨_, rfl, fun p dx np ndx ned => ?_⟩
  have f1 : Fr c0 H (upd (upd H dx (.own p)) p (.ins C dx [])) := (Fr.new ndx).trans (Fr.new (by rw [upd_ne ned.symm]; exact np))
  refine ⟨p, dx, me, rfl, upd_same, fun ar sa H2 har hsa hne f2 hp2 ha2 hs2 => ⟨rfl, ?_⟩⟩
  have f12 := f1.hide0 np f2
  have har0 : H ar = none := f1.free _ har
  have hsa0 : H sa = none := f1.free _ hsa
  have TA2 : TAt K H2 ar sa [] [] := ⟨hne, ⟨[], ha2, .nil⟩, hs2⟩
  refine ⟨_, rfl, t, _, _, _, rfl, rfl, f12.sqT hT, rfl, _, rfl, ti, tn, _, _, rfl, .inr (f12.sqT hI), .inr (f12.sqT hN), by rw [List.length_map, List.length_map, O.len], fun H3 L ts f3 hL eL el hts => ⟨L, ts, roomK (ins.zip ns), rfl, SqL.of eL, zip_paired O.len.symm (by rw [el, List.length_map]) (fun j t h => (hts j t h).2.2), fun q hq => ?_⟩⟩
  rw [merge_zip O.ok.nd O.len.symm]
  have f4 : Fr c0 H2 (upd H3 q (.dK (roomK (ins.zip ns)))) := f3.trans (Fr.new hq)
  have hq4 : (upd H3 q (.dK (roomK (ins.zip ns)))) q = some (.dK (roomK (ins.zip ns))) := upd_same
  generalize (upd H3 q (.dK (roomK (ins.zip ns)))) = H4 at f4 hq4 ⊢
  have f04 := f12.trans f4
  have hp4 := f4.at hp2 (fun z => z)
  refine ⟨_, rfl, _, rfl, p, dx, _, rfl, hp4, flR_no _ _ _ (by decide +kernel) (by decide +kernel) (by decide +kernel), _, rfl, t, _, _, _, rfl, rfl, f04.sqT hT, rfl, _, rfl, one_sz (by show 1 ≤ 1000; decide), fun t2 ht2 => fun d hd => ?_⟩
  have f5 : Fr c0 H4 (upd H4 t2 (.tup [.ref q])) := Fr.new ht2
  have f6 : Fr c0 (upd H4 t2 (.tup [.ref q])) (upd (upd H4 t2 (.tup [.ref q])) d (.dK [])) := Fr.new hd
  have f46 := f5.trans f6
  have ht6 := f6.tup (show (upd H4 t2 (.tup [.ref q])) t2 = some (.tup [.ref q]) from upd_same)
  have hd6 : (upd (upd H4 t2 (.tup [.ref q])) d (.dK [])) d = some (.dK []) := upd_same
  generalize (upd (upd H4 t2 (.tup [.ref q])) d (.dK [])) = H6 at f46 ht6 hd6 ⊢
  have f06 := f04.trans f46
  refine ⟨p, dx, vp, t2, d, ar, sa, decide (me = "near"), pt, [ins.zip ns], [], ins, [], [], rfl, f46.at hp4 (fun z => z), (TA2.fr f4).fr f46, ⟨Dp.fr f06 _ _ (tup_enc pt) dp, ⟨[q], SqT.of ht6, rfl, fun k d' r e1 e2 => ?_⟩, hd6⟩, O.w, fun H7 f7 TA7 => ?_⟩
  · cases k with
    | zero =>
      have e1 : q = d' := by simpa using e1
      have e2 : ins.zip ns = r := by simpa using e2
      subst e1 e2
      exact f46.at hq4 (fun z => z)
    | succ k => simp at e1
  · have f07 : Fr c0 H H7 := f06.hide f7 fun a o o' e z => by
      rcases z.1 with rfl | rfl
      · rw [har0] at e; cases e
      · rw [hsa0] at e; cases e
    refine ⟨one_sz (by show 2 ≤ 1000; decide), fun t3 ht3 => ?_⟩
    have f8 : Fr c0 H7 (upd H7 t3 (.tup [.ref p, .int (mean (decide (me = "near")) ins pt ns).v])) := Fr.new ht3
    exact k t3 p dx ar sa _ (f07.trans f8) np har0 hsa0 (SqT.of upd_same) (f8.at (f7.at (f46.at hp4 (fun z => z)) cT_ins) (fun z => z)) (by simpa using TA7.fr f8)
def spRun (K : PySem.W.Frag) : Sp := fun vs H Q _ => ∃ (v : V) (tn : Addr) (me : Str) (ins : List Str) (pt : Part) (ns : List Int), vs = [v, .ref tn, .str me] ∧ Dp K H v (encP ins pt) ∧ SqT K H tn (ns.map V.int) ∧ RunOk ins pt ns ∧ (me = "near" ∨ me = "called") ∧
  ∀ v H', Fr c0 H H' → Dp K H' v (.tuple [.int (mean (decide (me = "near")) ins pt ns).v, .tuple ((mean (decide (me = "near")) ins pt ns).said.map .int)]) → Q v H'
def t_run (K : PySem.W.Frag) (cRms : Addr) : TS :=
  (tSeq (tDrop (tCall (spCheckR K) [] C8.E0 (tCons (tVar 0) (tCons (tVar 1) (tCons (tVar 2) tNil)))))
    (tSeq (tAsg (tCall (spGone K cRms) [] C8.E0 (tCons (tVar 0) (tCons (tVar 1) (tCons (tVar 2) tNil)))) (gTup K 2 (gCons (gName 3) (gCons (gName 4) gNil))))
    (tRet (tTup (tCons (tVar 4) (tCons (tCB (rTupSq K) (tCons (tFld K (tVar 3) "said") tNil)) tNil))))))
theorem pure_run {K : PySem.W.Frag} {C : Addr} (T : RmsC K C) (vs : List V) (H : Hp) (Q : VK) (E : XK) (h : spRun K vs H Q E) : t_run K C { nx := fun _ H' => Q .non H', rt := Q } (start ["program", "numbers", "meaning", "rooms", "number"] vs) H := by
  obtain ⟨v, tn, me, ins, pt, ns, rfl, hd, hN, O, hm, k⟩ := h
  refine ⟨_, rfl, _, rfl, _, rfl, v, tn, me, ins, pt, ns, rfl, hd, O.ok, hN, O.len, O.rg, hm, fun H1 f1 => ?_⟩
  refine ⟨_, rfl, _, rfl, _, rfl, v, tn, me, ins, pt, ns, rfl, Dp.fr f1 _ _ (tup_encP ins pt) hd, f1.sqT hN, O, fun t p dx ar sa H2 f2 np na ns' hT hp TA => ?_⟩
  refine ⟨t, _, rfl, hT, rfl, _, _, rfl, _, _, rfl, rfl, ?_⟩
  refine ⟨_, rfl, _, rfl, p, C, dx, _, _, rfl, hp, T.cl, T.nS, flR_said _ _ _, sa, _, rfl, .inl ⟨SqL.of TA.sd, fun u hu => ?_⟩⟩
  have f3 : Fr c0 H2 (upd H2 u (.tup ((mean (decide (me = "near")) ins pt ns).said.map V.int))) := Fr.new hu
  refine ⟨one_sz (by show 2 ≤ 1000; decide), fun t2 ht2 => ?_⟩
  refine k _ _ (((f1.trans f2).trans f3).trans (Fr.new ht2)) (.tup (SqT.of upd_same) (.cons (.int _) (.cons (.tup (SqT.of ?_) (DpAll.ints _)) .nil)))
  exact (Fr.new (C := c0) ht2).tup upd_same
def spRoomed (K : PySem.W.Frag) : Sp := fun vs H Q _ => ∃ (v : V) (tn : Addr) (me : Str) (ins : List Str) (pt : Part) (ns : List Int), vs = [v, .ref tn, .str me] ∧ Dp K H v (encP ins pt) ∧ SqT K H tn (ns.map V.int) ∧ RunOk ins pt ns ∧ (me = "near" ∨ me = "called") ∧
  ∀ (D : Addr) rv H', Fr c0 H H' → H D = none → H' D = some (.lst rv) → DpAll K H' rv ((mean (decide (me = "near")) ins pt ns).rows.map encRow) → Q (.ref D) H'
def t_roomed (K : PySem.W.Frag) (cRms : Addr) : TS :=
  (tSeq (tDrop (tCall (spCheckR K) [] C8.E0 (tCons (tVar 0) (tCons (tVar 1) (tCons (tVar 2) tNil)))))
    (tRet (tCB (rListSq K) (tCons (tFld K (tOp (rIxT K) (tCall (spGone K cRms) [] C8.E0 (tCons (tVar 0) (tCons (tVar 1) (tCons (tVar 2) tNil)))) (tC (.int 0))) "rows") tNil))))
theorem pure_roomed {K : PySem.W.Frag} {C : Addr} (T : RmsC K C) (vs : List V) (H : Hp) (Q : VK) (E : XK) (h : spRoomed K vs H Q E) : t_roomed K C { nx := fun _ H' => Q .non H', rt := Q } (start ["program", "numbers", "meaning"] vs) H := by
  obtain ⟨v, tn, me, ins, pt, ns, rfl, hd, hN, O, hm, k⟩ := h
  refine ⟨_, rfl, _, rfl, _, rfl, v, tn, me, ins, pt, ns, rfl, hd, O.ok, hN, O.len, O.rg, hm, fun H1 f1 => ?_⟩
  refine ⟨_, rfl, _, rfl, _, rfl, v, tn, me, ins, pt, ns, rfl, Dp.fr f1 _ _ (tup_encP ins pt) hd, f1.sqT hN, O, fun t p dx ar sa H2 f2 np na ns' hT hp TA => ?_⟩
  obtain ⟨rv, e1, e2⟩ := TA.rw
  refine ⟨t, _, _, _, rfl, rfl, hT, rfl, p, C, dx, _, _, rfl, hp, T.cl, T.nR, flR_rows _ _ _, ar, _, rfl, .inl (SqL.of e1), fun D hD => ?_⟩
  have f3 : Fr c0 H2 (upd H2 D (.lst rv)) := Fr.new hD
  exact k D rv _ ((f1.trans f2).trans f3) ((f1.trans f2).free _ hD) upd_same (Dp.frs f3 _ _ (tup_rows _) e2)
end BN
namespace BN
open PySem L2
/-! ### the first reading that sees unlike numbers -/
abbrev PT := Nat × Str × Int × Int
def firstP : List Row → List Row → Nat → Option PT
  | a :: as, b :: bs, n => if a.2.2 = b.2.2 then firstP as bs (n + 1) else some (n, a.1, a.2.2, b.2.2)
  | _, _, _ => none
theorem firstP_ne : ∀ {as bs : List Row} {i n : Nat} {x y : Row}, firstP (as.take i) (bs.take i) n = none → as[i]? = some x → bs[i]? = some y → x.2.2 ≠ y.2.2 → firstP as bs n = some (n + i, x.1, x.2.2, y.2.2) ∧ firstP (as.take (i + 1)) (bs.take (i + 1)) n = some (n + i, x.1, x.2.2, y.2.2)
  | [], _, i, _, _, _, _, h, _, _ => by simp at h
  | _ :: _, [], i, _, _, _, _, _, h, _ => by simp at h
  | a :: as, b :: bs, 0, n, x, y, _, h1, h2, hn => by
    have e1 : a = x := by simpa using h1
    have e2 : b = y := by simpa using h2
    subst e1 e2
    simp [firstP, hn]
  | a :: as, b :: bs, i + 1, n, x, y, h, h1, h2, hn => by
    simp only [List.take_succ_cons, firstP] at h ⊢
    by_cases e : a.2.2 = b.2.2
    · rw [if_pos e] at h ⊢
      have := firstP_ne h (by simpa using h1) (by simpa using h2) hn
      rw [if_pos e, show n + (i + 1) = n + 1 + i by omega]
      exact this
    · rw [if_neg e] at h; cases h
theorem firstP_eq : ∀ {as bs : List Row} {i n : Nat} {x y : Row}, as[i]? = some x → bs[i]? = some y → x.2.2 = y.2.2 → firstP (as.take (i + 1)) (bs.take (i + 1)) n = firstP (as.take i) (bs.take i) n
  | [], _, i, _, _, _, h, _, _ => by simp at h
  | _ :: _, [], i, _, _, _, _, h, _ => by simp at h
  | a :: as, b :: bs, 0, n, x, y, h1, h2, hn => by
    have e1 : a = x := by simpa using h1
    have e2 : b = y := by simpa using h2
    subst e1 e2
    simp [firstP, hn]
  | a :: as, b :: bs, i + 1, n, x, y, h1, h2, hn => by
    simp only [List.take_succ_cons, firstP]
    by_cases e : a.2.2 = b.2.2
    · rw [if_pos e, if_pos e]; exact firstP_eq (i := i) (by simpa using h1) (by simpa using h2) hn
    · rw [if_neg e, if_neg e]
theorem firstP_more : ∀ {as bs : List Row} {i n : Nat} {r : PT}, firstP (as.take i) (bs.take i) n = some r → firstP (as.take (i + 1)) (bs.take (i + 1)) n = some r
  | [], _, i, _, _, h => by simp [firstP] at h
  | _ :: _, [], i, _, _, h => by cases i <;> simp [firstP] at h
  | a :: as, b :: bs, 0, n, r, h => by simp [firstP] at h
  | a :: as, b :: bs, i + 1, n, r, h => by
    simp only [List.take_succ_cons, firstP] at h ⊢
    by_cases e : a.2.2 = b.2.2
    · rw [if_pos e] at h ⊢; exact firstP_more h
    · rw [if_neg e] at h ⊢; exact h
theorem firstP_min : ∀ {as bs : List Row} {n : Nat}, firstP (as.take (min as.length bs.length)) (bs.take (min as.length bs.length)) n = firstP as bs n
  | [], _, n => by simp [firstP]
  | _ :: _, [], n => by simp [firstP]
  | a :: as, b :: bs, n => by
    have e : min (a :: as).length (b :: bs).length = min as.length bs.length + 1 := by simp only [List.length_cons]; omega
    rw [e]
    simp only [List.take_succ_cons, firstP]
    rw [firstP_min]
def nums (l : List Row) : List Int := l.map (·.2.2)
theorem firstP_none : ∀ {as bs : List Row} {n : Nat}, firstP as bs n = none → (∃ t, nums bs = nums as ++ t) ∨ ∃ t, nums as = nums bs ++ t
  | [], bs, n, _ => .inl ⟨nums bs, rfl⟩
  | a :: as, [], n, _ => .inr ⟨nums (a :: as), rfl⟩
  | a :: as, b :: bs, n, h => by
    simp only [firstP] at h
    by_cases e : a.2.2 = b.2.2
    · rw [if_pos e] at h
      rcases firstP_none h with ⟨t, q⟩ | ⟨t, q⟩
      · exact .inl ⟨t, by simp only [nums, List.map_cons] at q ⊢; rw [q, e]; rfl⟩
      · exact .inr ⟨t, by simp only [nums, List.map_cons] at q ⊢; rw [q, e]; rfl⟩
    · rw [if_neg e] at h; cases h
/-! ### what comes and what is said hangs on the numbers read alone -/
abbrev REnv := Str → Option (List Int → Int × List Int × List Int)
mutual
def rpl : Part → REnv → List Int → Int × List Int × List Int
  | .num n, _, s => (n, [], s)
  | .name _, _, s => match s with
    | n :: t => (n, [], t)
    | [] => (0, [], [])
  | .add a b, e, s => let o := rpl a e s; let p := rpl b e o.2.2; ((o.1 + p.1) % 100, o.2.1 ++ p.2.1, p.2.2)
  | .less a b, e, s => let o := rpl a e s; let p := rpl b e o.2.2; (if o.1 < p.1 then 1 else 0, o.2.1 ++ p.2.1, p.2.2)
  | .ite c a b, e, s => let o := rpl c e s; let p := if o.1 = 0 then rpl b e o.2.2 else rpl a e o.2.2; (p.1, o.2.1 ++ p.2.1, p.2.2)
  | .say a, e, s => let o := rpl a e s; (o.1, o.2.1 ++ [o.1], o.2.2)
  | .lt _ a b, e, s => let o := rpl a e s; let p := rpl b e o.2.2; (p.1, o.2.1 ++ p.2.1, p.2.2)
  | .fn f _ b r, e, s => rpl r (putN e f fun s => rpl b e s) s
  | .call f as, e, s => let o := rpls as e s; match e f with
    | some g => let p := g o.2; (p.1, o.1 ++ p.2.1, p.2.2)
    | none => (0, o.1, o.2)
def rpls : Parts → REnv → List Int → List Int × List Int
  | .nil, _, s => ([], s)
  | .cons p r, e, s => let o := rpl p e s; let q := rpls r e o.2.2; (o.2.1 ++ q.1, q.2)
end
def RRel (e : SEnv) (r : REnv) : Prop := ∀ f, (e f = none ∧ r f = none) ∨ ∃ g k, e f = some g ∧ r f = some k ∧ ∀ vs P t, k (nums (g vs P).rows ++ t) = ((g vs P).v, (g vs P).said, t)
theorem nums_app (a b : List Row) : nums (a ++ b) = nums a ++ nums b := by simp [nums]
mutual
theorem rpl_den (near : Bool) : ∀ (p : Part) (e : SEnv) (r : REnv) (P : List Room) (t : List Int), RRel e r → rpl p r (nums (den near p e P).rows ++ t) = ((den near p e P).v, (den near p e P).said, t)
  | .num n, e, r, P, t, h => by simp [den, rpl, nums]
  | .name x, e, r, P, t, h => by simp [den, rpl, nums]
  | .add a b, e, r, P, t, h => by
    simp only [den, Out.bnd, rpl, nums_app, List.append_assoc]
    rw [rpl_den near a e r P _ h, show nums ([] : List Row) = [] from rfl, List.nil_append, rpl_den near b e r P _ h]
    simp
  | .less a b, e, r, P, t, h => by
    simp only [den, Out.bnd, rpl, nums_app, List.append_assoc]
    rw [rpl_den near a e r P _ h, show nums ([] : List Row) = [] from rfl, List.nil_append, rpl_den near b e r P _ h]
    simp
  | .ite c a b, e, r, P, t, h => by
    simp only [den, Out.bnd, rpl, nums_app, List.append_assoc]
    rw [rpl_den near c e r P _ h]
    by_cases q : (den near c e P).v = 0
    · simp only [q, if_true]; rw [rpl_den near b e r P _ h]
    · simp only [q, if_false]; rw [rpl_den near a e r P _ h]
  | .say a, e, r, P, t, h => by
    simp only [den, Out.bnd, rpl, nums_app, List.append_assoc]
    rw [rpl_den near a e r P _ h]
    simp [nums]
  | .lt x a b, e, r, P, t, h => by
    simp only [den, Out.bnd, rpl, nums_app, List.append_assoc]
    rw [rpl_den near a e r P _ h, rpl_den near b e r _ _ h]
  | .fn f ps b r', e, r, P, t, h => by
    simp only [den, rpl]
    refine rpl_den near r' _ _ P t fun g => ?_
    unfold putN
    by_cases q : g = f
    · rw [if_pos q, if_pos q]
      exact .inr ⟨_, _, rfl, rfl, fun vs Q t => rpl_den near b e r _ t h⟩
    · rw [if_neg q, if_neg q]; exact h g
  | .call f as, e, r, P, t, h => by
    rcases h f with ⟨h1, h2⟩ | ⟨g, k, h1, h2, h3⟩
    · simp only [den, rpl, h1, h2]
      rw [rpls_den near as e r P t h]
    · simp only [den, rpl, h1, h2, nums_app, List.append_assoc]
      rw [rpls_den near as e r P _ h, h3]
theorem rpls_den (near : Bool) : ∀ (as : Parts) (e : SEnv) (r : REnv) (P : List Room) (t : List Int), RRel e r → rpls as r (nums ((dens near as e P).flatMap (·.rows)) ++ t) = ((dens near as e P).flatMap (·.said), t)
  | .nil, e, r, P, t, h => by simp [dens, rpls, nums]
  | .cons p q, e, r, P, t, h => by
    simp only [dens, List.flatMap_cons, rpls, nums_app, List.append_assoc]
    rw [rpl_den near p e r P _ h, rpls_den near q e r P _ h]
end
theorem RRel.nil : RRel (fun _ => none) (fun _ => none) := fun _ => .inl ⟨rfl, rfl⟩
/-- two runs whose readings see the same numbers come to the same and say the same -/
theorem same_of_none {p : Part} {P : List Room} {n : Nat} (h : firstP (den true p (fun _ => none) P).rows (den false p (fun _ => none) P).rows n = none) :
    (den true p (fun _ => none) P).v = (den false p (fun _ => none) P).v ∧ (den true p (fun _ => none) P).said = (den false p (fun _ => none) P).said ∧ nums (den true p (fun _ => none) P).rows = nums (den false p (fun _ => none) P).rows := by
  have a := fun t => rpl_den true p _ _ P t RRel.nil
  have b := fun t => rpl_den false p _ _ P t RRel.nil
  rcases firstP_none h with ⟨t, q⟩ | ⟨t, q⟩
  · have h1 := a t
    have h2 := b []
    rw [List.append_nil, q, h1] at h2
    have ht : t = [] := congrArg (fun z => z.2.2) h2
    subst ht
    exact ⟨congrArg (fun z => z.1) h2, congrArg (fun z => z.2.1) h2, by rw [q, List.append_nil]⟩
  · have h1 := b t
    have h2 := a []
    rw [List.append_nil, q, h1] at h2
    have ht : t = [] := congrArg (fun z => z.2.2) h2
    subst ht
    exact ⟨(congrArg (fun z => z.1) h2).symm, (congrArg (fun z => z.2.1) h2).symm, by rw [q, List.append_nil]⟩
end BN
namespace BNZ
open PySem PySem.Calls PySem.Spec PyProof.Rows L2
/-! ### enumerate(zip(a, b)): the zip, whatever it knows of the tuple it handed out last -/
abbrev IsZA (h : Heap) (z TI TO : Addr) (v : Value) (f : Bool) : Prop :=
  h.get? z = some { cls := .type "zip", dict := none, data := .fields #[v, .bool f, .bool false, .ref TI, .ref TO], slots := #[] }
def OwnV (v : Value) : Prop := v = .none ∨ ∃ T : Addr, v = rawInt T
section
variable {prog : Program} {w : World} {A : Around} {E : Value → Shared → Prop} {s : Shared} {z TI TO i1 i2 : Addr} {fp1 fp2 : List Addr} {n1 n2 i : Nat} {P1 P2 : Nat → Value → Prop} {St1 St2 : Nat → Heap → Prop} {f : Bool} {v a1 a2 : Value}
theorem dead_load {a : Addr} {Q : Option Obj → Shared → Prop} (ho : s.heap.get? a = none) (h : Q none s) : wpAny (model prog w) A (loadIfAlive a) Q E s := by
  have h' : Q (s.heap.get? a) s := by rw [ho]; exact h
  exact fun _ _ _ => h'
theorem live_load {a : Addr} {o : Obj} {Q : Option Obj → Shared → Prop} (ho : s.heap.get? a = some o) (h : Q (some o) s) : wpAny (model prog w) A (loadIfAlive a) Q E s := by
  have h' : Q (s.heap.get? a) s := by rw [ho]; exact h
  exact fun _ _ _ => h'
theorem za_own {Q : Bool → Shared → Prop} (hz : IsZA s.heap z TI TO v f) (hv : OwnV v) (hfree : Q true s) (hheld : ∀ h', IsZA h' z TI TO v true → Heap.SameBut z s.heap h' → Q false { s with heap := h' }) :
    wpAny (model prog w) A (Builtin.SmallTypes.ownedTupleIsFree (.ref z)) Q E s := by
  unfold Builtin.SmallTypes.ownedTupleIsFree
  rcases hv with rfl | ⟨T, rfl⟩
  · exact wpAny_bind (wpAny_field hz rfl (x := .none) rfl (wpAny_pure hfree))
  · refine wpAny_bind (wpAny_field hz rfl (x := rawInt T) rfl ?_)
    show wpAny _ _ (loadIfAlive ((T : Int).toNat) >>= _) _ _ _
    rw [Int.toNat_natCast]
    cases e : s.heap.get? T with
    | none =>
      refine wpAny_bind (dead_load e ?_)
      simp only [Option.isNone_none, if_true]
      exact wpAny_pure hfree
    | some oT =>
      refine wpAny_bind (live_load e ?_)
      simp only [Option.isNone_some, Bool.false_eq_true, if_false]
      refine wpAny_bind (wpAny_field hz rfl (x := .bool f) rfl ?_)
      cases f with
      | true =>
        rw [if_neg (show ¬ ((Value.bool true != Value.bool true) = true) from Bool.false_ne_true)]
        exact wpAny_pure (hheld s.heap hz (Heap.SameBut.refl _ _))
      | false =>
        rw [if_pos (show (Value.bool false != Value.bool true) = true from rfl)]
        exact wpAny_bind (wpAny_setField_rec hz (by simp) fun h₁ hz₁ hs₁ => wpAny_pure (hheld h₁ hz₁ hs₁))
theorem za_item {Q : Value → Shared → Prop} (S : ZipSep2 z TI TO i1 i2 fp1 fp2) (D1 : Draws prog w A i1 fp1 n1 P1 St1) (D2 : Draws prog w A i2 fp2 n2 P2 St2)
    (hz : IsZA s.heap z TI TO v f) (hv : OwnV v) (hTI : IsTupOf2 s.heap TI (.ref i1) (.ref i2)) (hTO : IsTupOf2 s.heap TO a1 a2) (st1 : St1 i s.heap) (st2 : St2 i s.heap) (hlt1 : i < n1) (hlt2 : i < n2)
    (hQ : ∀ x1 x2 h' tk, P1 i x1 → P2 i x2 → (∃ v f, IsZA h' z TI TO v f ∧ OwnV v) → (∃ a1 a2, IsTupOf2 h' TO a1 a2) → St1 (i + 1) h' → St2 (i + 1) h' → IsTupOf2 h' s.heap.objs.size x1 x2 → h'.objs.size = s.heap.objs.size + 1 →
      (∀ c o, c ≠ z → c ≠ TO → c ≠ i1 → c ≠ i2 → s.heap.get? c = some o → h'.get? c = some o) → Q (.ref s.heap.objs.size) { s with heap := h', toks := tk }) :
    wpAny (model prog w) A (Builtin.«zip.__next__» ⟨[.ref z], []⟩) (fun fin s' => ∃ v, fin = .done (.ret v) ∧ Q v s') E s := by
  obtain ⟨hp, g, d, tk0, os⟩ := s
  show wpAny _ _ (field (.ref z) 2 >>= _) _ _ _
  refine wpAny_bind (wpAny_field hz rfl (x := .bool false) rfl ?_)
  show wpAny _ _ (field (.ref z) 3 >>= _) _ _ _
  refine wpAny_bind (wpAny_field hz rfl (x := .ref TI) rfl ?_)
  refine wpAny_bind (wpAny_seqItems hTI rfl ?_)
  show wpAny _ _ (Builtin.SmallTypes.ownedTupleIsFree (.ref z) >>= _) _ _ _
  refine wpAny_bind (za_own hz hv ?_ fun g0 hz0 hs0 => ?_)
  · simp only [if_true]
    refine wpAny_bind (wpAny_rule ?_)
    refine wpAny_bind (wpAny_field hz rfl (x := .ref TO) rfl ?_)
    refine wpAny_bind (wpAny_setField_rec hz (by simp) fun g0 hz0 hs0 => ?_)
    replace hz0 : IsZA g0 z TI TO .ellipsis f := hz0
    replace hs0 : Heap.SameBut z hp g0 := hs0
    refine wpAny_bind ?_
    simp only [List.zipIdx_cons, List.zipIdx_nil, List.forIn_cons, List.forIn_nil]
    refine wpAny_bind (wpAny_bind (wpAny_onRaise ?_))
    show wpAny _ _ (Builtin.SmallTypes.nextOf (.ref i1) >>= _) _ _ ⟨g0, g, d, tk0, os⟩
    refine wpAny_bind (D1.item i _ _ _ hlt1 (D1.over st1 hs0 S.zf1) fun x1 p1 tk1 hx1 sn1 hp1 => wpAny_pure ?_)
    replace hp1 : Heap.SameBut i1 g0 p1 := hp1
    have hU1 : IsTupOf2 p1 TO a1 a2 := hp1.extBut _ _ S.Ti1 (hs0.extBut _ _ S.TOz hTO)
    refine wpAny_bind (wpAny_seqItems (s := ⟨p1, g, d, tk1, os⟩) hU1 rfl ?_)
    refine wpAny_bind (updateSeq_IsTupOf2 (s := ⟨p1, g, d, tk1, os⟩) hU1 fun g1 hT1 hs1 => ?_)
    replace hT1 : IsTupOf2 g1 TO x1 a2 := hT1
    replace hs1 : Heap.SameBut TO p1 g1 := hs1
    refine wpAny_bind (wpAny_letGo (wpAny_pure ?_))
    refine wpAny_bind (wpAny_bind (wpAny_onRaise ?_))
    show wpAny _ _ (Builtin.SmallTypes.nextOf (.ref i2) >>= _) _ _ ⟨g1, g, d, tk1, os⟩
    refine wpAny_bind (D2.item i _ _ _ hlt2 (D2.over (D2.over (D2.over st2 hs0 S.zf2) hp1 S.sep1_2) hs1 S.Tf2) fun x2 p2 tk2 hx2 sn2 hp2 => wpAny_pure ?_)
    replace hp2 : Heap.SameBut i2 g1 p2 := hp2
    have hU2 : IsTupOf2 p2 TO x1 a2 := hp2.extBut _ _ S.Ti2 hT1
    refine wpAny_bind (wpAny_seqItems (s := ⟨p2, g, d, tk2, os⟩) hU2 rfl ?_)
    refine wpAny_bind (updateSeq_IsTupOf2 (s := ⟨p2, g, d, tk2, os⟩) hU2 fun g2 hT2 hs2 => ?_)
    replace hT2 : IsTupOf2 g2 TO x1 x2 := hT2
    replace hs2 : Heap.SameBut TO p2 g2 := hs2
    refine wpAny_bind (wpAny_letGo (wpAny_pure (wpAny_pure ?_)))
    refine wpAny_bind (wpAny_seqItems (s := ⟨g2, g, d, tk2, os⟩) hT2 rfl ?_)
    refine wpAny_bind (wpAny_newTuple ?_)
    have hsz : g2.objs.size = hp.objs.size := by rw [hs2.1, hp2.1, hs1.1, hp1.1, hs0.1]
    have hzz : IsZA g2 z TI TO .ellipsis f := (hs2.extBut _ _ S.TOz.symm (hp2.extBut _ _ S.zi2 (hs1.extBut _ _ S.TOz.symm (hp1.extBut _ _ S.zi1 hz0))))
    have hkk : ∀ c o, c ≠ z → c ≠ TO → c ≠ i1 → c ≠ i2 → hp.get? c = some o → g2.get? c = some o := fun c o cz cT c1 c2 e =>
      (hs2.extBut _ _ cT (hp2.extBut _ _ c2 (hs1.extBut _ _ cT (hp1.extBut _ _ c1 (hs0.extBut _ _ cz e)))))
    have hj1 : St1 (i + 1) g2 := (D1.over (D1.over (D1.over sn1 hs1 S.Tf1) hp2 S.sep2_1) hs2 S.Tf1)
    have hj2 : St2 (i + 1) g2 := (D2.over sn2 hs2 S.Tf2)
    have hzlt : z < g2.objs.size := Heap.lt_size hzz
    show wpAny _ _ (Builtin.SmallTypes.ownedTupleHandOut (.ref z) (.ref g2.objs.size) >>= _) _ _ ⟨g2.push { cls := .type "tuple", data := .seq #[x1, x2] }, g, d, tk2, os⟩
    refine wpAny_bind ?_
    unfold Builtin.SmallTypes.ownedTupleHandOut
    have hz₆ : IsZA (g2.push { cls := .type "tuple", data := .seq #[x1, x2] }) z TI TO .ellipsis f := Heap.get?_push_of_some _ hzz
    refine wpAny_bind (wpAny_setField_rec hz₆ (by simp) fun h₇ hz₇ hs₇ => ?_)
    replace hz₇ : IsZA h₇ z TI TO (rawInt g2.objs.size) f := hz₇
    refine wpAny_setField_rec hz₇ (by simp) fun h₈ hz₈ hs₈ => ?_
    replace hz₈ : IsZA h₈ z TI TO (rawInt g2.objs.size) false := hz₈
    replace hs₇ : Heap.SameBut z (g2.push { cls := .type "tuple", data := .seq #[x1, x2] }) h₇ := hs₇
    replace hs₈ : Heap.SameBut z h₇ h₈ := hs₈
    have up : ∀ c o, c ≠ z → g2.get? c = some o → h₈.get? c = some o := fun c o c1 e => hs₈.extBut _ _ c1 (hs₇.extBut _ _ c1 (Heap.get?_push_of_some _ e))
    have hT₈ : IsTupOf2 h₈ g2.objs.size x1 x2 := hs₈.extBut _ _ (Nat.ne_of_gt hzlt) (hs₇.extBut _ _ (Nat.ne_of_gt hzlt) (Heap.get?_push_size _ rfl))
    have hz8 : h₈.objs.size = g2.objs.size + 1 := by rw [hs₈.1, hs₇.1, Heap.size_push]
    rw [hsz] at hz₈ hT₈ hz8
    refine wpAny_pure ⟨_, rfl, ?_⟩
    show Q (.ref g2.objs.size) ⟨h₈, g, d, tk2, os⟩
    rw [hsz]
    exact hQ x1 x2 h₈ tk2 hx1 hx2 ⟨_, _, hz₈, .inr ⟨_, rfl⟩⟩ ⟨_, _, up _ _ S.TOz hT2⟩ (D1.frame _ _ _ hj1 fun b hb o e => up b o (fun q => S.zf1 (q ▸ hb)) e) (D2.frame _ _ _ hj2 fun b hb o e => up b o (fun q => S.zf2 (q ▸ hb)) e) hT₈ hz8 fun c o cz cT c1 c2 e => up c o cz (hkk c o cz cT c1 c2 e)
  · replace hs0 : Heap.SameBut z hp g0 := hs0
    simp only [Bool.false_eq_true, if_false]
    refine wpAny_bind ?_
    rw [← Array.forIn_toList]
    simp only [List.forIn_cons, List.forIn_nil]
    refine wpAny_bind (wpAny_bind (wpAny_holding ?_))
    show wpAny _ _ (Builtin.SmallTypes.nextOf (.ref i1) >>= _) _ _ ⟨g0, g, d, tk0, os⟩
    refine wpAny_bind (D1.item i _ _ _ hlt1 (D1.over st1 hs0 S.zf1) fun x1 p1 tk1 hx1 sn1 hp1 => wpAny_pure ?_)
    replace hp1 : Heap.SameBut i1 g0 p1 := hp1
    refine wpAny_pure ?_
    refine wpAny_bind (wpAny_bind (wpAny_holding ?_))
    show wpAny _ _ (Builtin.SmallTypes.nextOf (.ref i2) >>= _) _ _ ⟨p1, g, d, tk1, os⟩
    refine wpAny_bind (D2.item i _ _ _ hlt2 (D2.over (D2.over st2 hs0 S.zf2) hp1 S.sep1_2) fun x2 p2 tk2 hx2 sn2 hp2 => wpAny_pure ?_)
    replace hp2 : Heap.SameBut i2 p1 p2 := hp2
    refine wpAny_pure (wpAny_pure ?_)
    show wpAny _ _ (newTuple [x1, x2] >>= _) _ _ ⟨p2, g, d, tk2, os⟩
    refine wpAny_bind (wpAny_newTuple ?_)
    have hsz : p2.objs.size = hp.objs.size := by rw [hp2.1, hp1.1, hs0.1]
    have hzz : IsZA p2 z TI TO v true := hp2.extBut _ _ S.zi2 (hp1.extBut _ _ S.zi1 hz0)
    have hk : ∀ c o, c ≠ z → c ≠ i1 → c ≠ i2 → hp.get? c = some o → p2.get? c = some o := fun c o c1 c2 c3 e => hp2.extBut _ _ c3 (hp1.extBut _ _ c2 (hs0.extBut _ _ c1 e))
    have hj1 : St1 (i + 1) p2 := D1.over sn1 hp2 S.sep2_1
    refine wpAny_pure ⟨_, rfl, ?_⟩
    show Q (.ref p2.objs.size) ⟨p2.push { cls := .type "tuple", data := .seq #[x1, x2] }, g, d, tk2, os⟩
    have hp' : IsTupOf2 (p2.push { cls := .type "tuple", data := .seq #[x1, x2] }) p2.objs.size x1 x2 := Heap.get?_push_size _ rfl
    have hz4 : (p2.push { cls := .type "tuple", data := .seq #[x1, x2] }).objs.size = p2.objs.size + 1 := Heap.size_push ..
    rw [hsz] at hp' hz4 ⊢
    exact hQ x1 x2 _ tk2 hx1 hx2 ⟨_, _, Heap.get?_push_of_some _ hzz, hv⟩ ⟨_, _, Heap.get?_push_of_some _ (hk TO _ S.TOz S.Ti1 S.Ti2 hTO)⟩ (D1.frame _ _ _ hj1 fun b _ o e => Heap.get?_push_of_some _ e) (D2.frame _ _ _ sn2 fun b _ o e => Heap.get?_push_of_some _ e) hp' hz4 fun c o c1 _ c2 c3 e => Heap.get?_push_of_some _ (hk c o c1 c2 c3 e)
theorem za_end {Q : Fin → Shared → Prop} (S : ZipSep2 z TI TO i1 i2 fp1 fp2) (D1 : Draws prog w A i1 fp1 n1 P1 St1) (D2 : Draws prog w A i2 fp2 n2 P2 St2)
    (hz : IsZA s.heap z TI TO v f) (hv : OwnV v) (hTI : IsTupOf2 s.heap TI (.ref i1) (.ref i2)) (hTO : IsTupOf2 s.heap TO a1 a2) (st1 : St1 i s.heap) (st2 : St2 i s.heap) (hle1 : i ≤ n1) (hle2 : i ≤ n2) (hend : i = n1 ∨ i = n2)
    (hE : ∀ h' tk e, (∀ c o, c ≠ z → c ≠ TO → c ≠ i1 → c ≠ i2 → s.heap.get? c = some o → h'.get? c = some o) → (∃ o, h'.get? e = some o ∧ o.cls = .type "StopIteration") → E (.ref e) { s with heap := h', toks := tk }) :
    wpAny (model prog w) A (Builtin.«zip.__next__» ⟨[.ref z], []⟩) Q E s := by
  obtain ⟨hp, g, d, tk0, os⟩ := s
  show wpAny _ _ (field (.ref z) 2 >>= _) _ _ _
  refine wpAny_bind (wpAny_field hz rfl (x := .bool false) rfl ?_)
  show wpAny _ _ (field (.ref z) 3 >>= _) _ _ _
  refine wpAny_bind (wpAny_field hz rfl (x := .ref TI) rfl ?_)
  refine wpAny_bind (wpAny_seqItems hTI rfl ?_)
  show wpAny _ _ (Builtin.SmallTypes.ownedTupleIsFree (.ref z) >>= _) _ _ _
  refine wpAny_bind (za_own hz hv ?_ fun g0 hz0 hs0 => ?_)
  · simp only [if_true]
    refine wpAny_bind (wpAny_rule ?_)
    refine wpAny_bind (wpAny_field hz rfl (x := .ref TO) rfl ?_)
    refine wpAny_bind (wpAny_setField_rec hz (by simp) fun g0 hz0 hs0 => ?_)
    replace hz0 : IsZA g0 z TI TO .ellipsis f := hz0
    replace hs0 : Heap.SameBut z hp g0 := hs0
    refine wpAny_bind ?_
    simp only [List.zipIdx_cons, List.zipIdx_nil, List.forIn_cons, List.forIn_nil]
    refine wpAny_bind (wpAny_bind (wpAny_onRaise ?_))
    show wpAny _ _ (Builtin.SmallTypes.nextOf (.ref i1) >>= _) _ _ ⟨g0, g, d, tk0, os⟩
    by_cases hlt1 : i < n1
    · refine wpAny_bind (D1.item i _ _ _ hlt1 (D1.over st1 hs0 S.zf1) fun x1 p1 tk1 hx1 sn1 hp1 => wpAny_pure ?_)
      replace hp1 : Heap.SameBut i1 g0 p1 := hp1
      have hU1 : IsTupOf2 p1 TO a1 a2 := hp1.extBut _ _ S.Ti1 (hs0.extBut _ _ S.TOz hTO)
      refine wpAny_bind (wpAny_seqItems (s := ⟨p1, g, d, tk1, os⟩) hU1 rfl ?_)
      refine wpAny_bind (updateSeq_IsTupOf2 (s := ⟨p1, g, d, tk1, os⟩) hU1 fun g1 hT1 hs1 => ?_)
      replace hT1 : IsTupOf2 g1 TO x1 a2 := hT1
      replace hs1 : Heap.SameBut TO p1 g1 := hs1
      refine wpAny_bind (wpAny_letGo (wpAny_pure ?_))
      have hi2 : i = n2 := by omega
      refine wpAny_bind (wpAny_bind (wpAny_onRaise ?_))
      show wpAny _ _ (Builtin.SmallTypes.nextOf (.ref i2) >>= _) _ _ ⟨g1, g, d, tk1, os⟩
      refine wpAny_bind (D2.done ⟨g1, g, d, tk1, os⟩ _ _ (by rw [← hi2]; exact (D2.over (D2.over (D2.over st2 hs0 S.zf2) hp1 S.sep1_2) hs1 S.Tf2)) fun q e hq he => ?_)
      replace hq : Heap.ExtBut i2 g1 q := hq
      obtain ⟨oe, hoe, hce⟩ := he
      replace hoe : q.get? e = some oe := hoe
      have hzq : IsZA q z TI TO .ellipsis f := hq _ _ S.zi2 (hs1.extBut _ _ S.TOz.symm (hp1.extBut _ _ S.zi1 hz0))
      have hez : e ≠ z := fun x => by subst x; rw [hzq] at hoe; cases hoe; simp at hce
      refine wpAny_setField_rec (s := ⟨q, g, d, tk1, os⟩) hzq (by simp) fun q' _ hq' => ?_
      replace hq' : Heap.SameBut z q q' := hq'
      exact hE q' tk1 e (fun c o cz cT c1 c2 x => hq'.extBut _ _ cz (hq _ _ c2 (hs1.extBut _ _ cT (hp1.extBut _ _ c1 (hs0.extBut _ _ cz x))))) ⟨oe, hq'.extBut _ _ hez hoe, hce⟩
    · have hi1 : i = n1 := by omega
      refine wpAny_bind (D1.done ⟨g0, g, d, tk0, os⟩ _ _ (by rw [← hi1]; exact (D1.over st1 hs0 S.zf1)) fun q e hq he => ?_)
      replace hq : Heap.ExtBut i1 g0 q := hq
      obtain ⟨oe, hoe, hce⟩ := he
      replace hoe : q.get? e = some oe := hoe
      have hzq : IsZA q z TI TO .ellipsis f := hq _ _ S.zi1 hz0
      have hez : e ≠ z := fun x => by subst x; rw [hzq] at hoe; cases hoe; simp at hce
      refine wpAny_setField_rec (s := ⟨q, g, d, tk0, os⟩) hzq (by simp) fun q' _ hq' => ?_
      replace hq' : Heap.SameBut z q q' := hq'
      exact hE q' tk0 e (fun c o cz cT c1 c2 x => hq'.extBut _ _ cz (hq _ _ c1 (hs0.extBut _ _ cz x))) ⟨oe, hq'.extBut _ _ hez hoe, hce⟩
  · replace hs0 : Heap.SameBut z hp g0 := hs0
    simp only [Bool.false_eq_true, if_false]
    refine wpAny_bind ?_
    rw [← Array.forIn_toList]
    simp only [List.forIn_cons, List.forIn_nil]
    refine wpAny_bind (wpAny_bind (wpAny_holding ?_))
    show wpAny _ _ (Builtin.SmallTypes.nextOf (.ref i1) >>= _) _ _ ⟨g0, g, d, tk0, os⟩
    by_cases hlt1 : i < n1
    · refine wpAny_bind (D1.item i _ _ _ hlt1 (D1.over st1 hs0 S.zf1) fun x1 p1 tk1 hx1 sn1 hp1 => wpAny_pure ?_)
      replace hp1 : Heap.SameBut i1 g0 p1 := hp1
      refine wpAny_pure ?_
      have hi2 : i = n2 := by omega
      refine wpAny_bind (wpAny_bind (wpAny_holding ?_))
      show wpAny _ _ (Builtin.SmallTypes.nextOf (.ref i2) >>= _) _ _ ⟨p1, g, d, tk1, os⟩
      refine wpAny_bind (D2.done ⟨p1, g, d, tk1, os⟩ _ _ (by rw [← hi2]; exact (D2.over (D2.over st2 hs0 S.zf2) hp1 S.sep1_2)) fun q e hq he => ?_)
      replace hq : Heap.ExtBut i2 p1 q := hq
      exact hE q tk1 e (fun c o cz cT c1 c2 x => hq _ _ c2 (hp1.extBut _ _ c1 (hs0.extBut _ _ cz x))) he
    · have hi1 : i = n1 := by omega
      refine wpAny_bind (D1.done ⟨g0, g, d, tk0, os⟩ _ _ (by rw [← hi1]; exact (D1.over st1 hs0 S.zf1)) fun q e hq he => ?_)
      replace hq : Heap.ExtBut i1 g0 q := hq
      exact hE q tk0 e (fun c o cz cT c1 c2 x => hq _ _ c1 (hs0.extBut _ _ cz x)) he
end
end BNZ
namespace BNZ
open PySem PySem.Calls PySem.Spec PyProof.Rows L2
section
variable {prog : Program} {w : World} {A : Around} {E : Value → Shared → Prop} {s : Shared} {e z TI TO i1 i2 : Addr} {fp1 fp2 : List Addr} {n1 n2 i : Nat} {P1 P2 : Nat → Value → Prop} {St1 St2 : Nat → Heap → Prop} {f : Bool} {v a1 a2 old : Value} {c : Int}
/-- enumerate's next item over a zip: the pair T, in a pair with its number -/
theorem ez_item {Q : Value → Shared → Prop} (S : ZipSep2 z TI TO i1 i2 fp1 fp2) (D1 : Draws prog w A.in1 i1 fp1 n1 P1 St1) (D2 : Draws prog w A.in1 i2 fp2 n2 P2 St2) (he : IsEnum s.heap e z c old)
    (hz : IsZA s.heap z TI TO v f) (hv : OwnV v) (hTI : IsTupOf2 s.heap TI (.ref i1) (.ref i2)) (hTO : IsTupOf2 s.heap TO a1 a2) (st1 : St1 i s.heap) (st2 : St2 i s.heap) (hlt1 : i < n1) (hlt2 : i < n2)
    (ne : e ≠ z ∧ e ≠ TO ∧ e ≠ i1 ∧ e ≠ i2 ∧ e ∉ fp1 ∧ e ∉ fp2)
    (hQ : ∀ x1 x2 h₁ h' tk, P1 i x1 → P2 i x2 → IsEnumOut h' e z (c + 1) (.ref s.heap.objs.size) (s.heap.objs.size + 1) → (∃ v f, IsZA h' z TI TO v f ∧ OwnV v) → (∃ a1 a2, IsTupOf2 h' TO a1 a2) → St1 (i + 1) h' → St2 (i + 1) h' →
      IsTupOf2 h₁ s.heap.objs.size x1 x2 → h₁.objs.size = s.heap.objs.size + 1 → (∀ c o, c ≠ z → c ≠ TO → c ≠ i1 → c ≠ i2 → s.heap.get? c = some o → h₁.get? c = some o) →
      h'.get? (s.heap.objs.size + 1) = some { cls := .type "tuple", data := .seq #[.int c tk, .ref s.heap.objs.size] } → (∀ b o, b ≠ e → h₁.get? b = some o → h'.get? b = some o) →
      Q (.ref (s.heap.objs.size + 1)) { s with heap := h', toks := tk + 1 }) :
    wpAny (model prog w) A (Builtin.«enumerate.__next__» ⟨[.ref e], []⟩) (fun fin s' => ∃ v, fin = .done (.ret v) ∧ Q v s') E s := by
  obtain ⟨hp, g, d, tk₀, os⟩ := s
  show wpAny _ _ (field (.ref e) 2 >>= _) _ _ _
  refine wpAny_bind (wpAny_field he rfl (x := .ref z) rfl ?_)
  have hTz : Shared.TypeIs ⟨hp, g, d, tk₀, os⟩ (.ref z) "zip" := ⟨_, hz, rfl⟩
  refine wpAny_bind ?_
  unfold Builtin.SmallTypes.nextOf
  refine wpAny_bind (wpAny_callSpecial?_slot (name := Str.ofString "__next__") hTz F.slot_zip_next (wpAny_call_entry F.slot_zip_next hTz F.entry_zip_next
    (za_item S D1 D2 hz hv hTI hTO st1 st2 hlt1 hlt2 fun x1 x2 h₁ tk y1 y2 zs tos s1' s2' hT hsz hk => wpAny_pure ?_) (F.args_zip_next_1 _)))
  obtain ⟨v', f', hz₁, hv'⟩ := zs
  obtain ⟨b1, b2, hTO₁⟩ := tos
  have he₁ : IsEnum h₁ e z c old := hk e _ ne.1 ne.2.1 ne.2.2.1 ne.2.2.2.1 he
  show wpAny _ _ (field (.ref e) 3 >>= _) _ _ ⟨h₁, g, d, tk, os⟩
  refine wpAny_bind (wpAny_field he₁ rfl (x := rawInt c) rfl ?_)
  show wpAny _ _ (field (.ref e) 4 >>= _) _ _ ⟨h₁, g, d, tk, os⟩
  refine wpAny_bind (wpAny_field he₁ rfl (x := .none) rfl ?_)
  show wpAny _ _ (mkInt c >>= _) _ _ ⟨h₁, g, d, tk, os⟩
  refine wpAny_bind (wpAny_mkInt ?_)
  show wpAny _ _ (setField (.ref e) 3 (rawInt (c + 1)) >>= _) _ _ ⟨h₁, g, d, tk + 1, os⟩
  refine wpAny_bind (wpAny_setField_rec he₁ (by simp) fun h₂ he₂ hs₂ => ?_)
  replace hs₂ : Heap.SameBut e h₁ h₂ := hs₂
  replace he₂ : IsEnum h₂ e z (c + 1) old := he₂
  show wpAny _ _ (setField (.ref e) 4 .none >>= _) _ _ ⟨h₂, g, d, tk + 1, os⟩
  refine wpAny_bind (wpAny_setField_rec he₂ (by simp) fun h₃ he₃ hs₃ => ?_)
  replace hs₃ : Heap.SameBut e h₂ h₃ := hs₃
  replace he₃ : IsEnum h₃ e z (c + 1) old := he₃
  show wpAny _ _ (newTuple [.int c tk, .ref hp.objs.size] >>= _) _ _ ⟨h₃, g, d, tk + 1, os⟩
  refine wpAny_bind (wpAny_newTuple ?_)
  have he₄ : IsEnum (h₃.push { cls := .type "tuple", data := .seq #[.int c tk, .ref hp.objs.size] }) e z (c + 1) old := Heap.get?_push_of_some _ he₃
  generalize hh₄ : h₃.push { cls := .type "tuple", data := .seq #[.int c tk, .ref hp.objs.size] } = h₄ at he₄
  have hsz3 : h₃.objs.size = hp.objs.size + 1 := by rw [hs₃.1, hs₂.1]; exact hsz
  have hel : e < hp.objs.size + 1 := Nat.lt_succ_of_lt (Heap.lt_size he)
  have ht₄ : h₄.get? (hp.objs.size + 1) = some { cls := .type "tuple", data := .seq #[.int c tk, .ref hp.objs.size] } := by rw [← hh₄, ← hsz3]; exact Heap.get?_push_size _ rfl
  have hk₄ : ∀ b o, b ≠ e → h₁.get? b = some o → h₄.get? b = some o := fun b o hbe hb => by
    rw [← hh₄]; exact Heap.get?_push_of_some _ (hs₃.extBut b o hbe (hs₂.extBut b o hbe hb))
  show wpAny _ _ (Builtin.SmallTypes.ownedTupleIsFree (.ref e) >>= _) _ _ ⟨h₄, g, d, tk + 1, os⟩
  rw [hsz3]
  clear hh₄ he₃ hs₃ he₂ hs₂ he₁ hsz3 h₃ h₂
  refine wpAny_bind ?_
  · unfold Builtin.SmallTypes.ownedTupleIsFree
    refine wpAny_bind (wpAny_field he₄ rfl (x := .none) rfl (wpAny_pure ?_))
    simp only [if_true]
    refine wpAny_bind (wpAny_rule ?_)
    refine wpAny_bind (wpAny_field he₄ rfl (x := old) rfl ?_)
    refine wpAny_bind (wpAny_setField_rec he₄ (by simp) fun h₅ he₅ hs₅ => ?_)
    replace hs₅ : Heap.SameBut e h₄ h₅ := hs₅
    replace he₅ : IsEnum h₅ e z (c + 1) (.ref hp.objs.size) := he₅
    show wpAny _ _ (Builtin.SmallTypes.ownedTupleHandOut (.ref e) (.ref (hp.objs.size + 1)) >>= _) _ _ ⟨h₅, g, d, tk + 1, os⟩
    refine wpAny_bind ?_
    · unfold Builtin.SmallTypes.ownedTupleHandOut
      refine wpAny_bind (wpAny_setField_rec he₅ (by simp) fun h₆ he₆ hs₆ => ?_)
      replace hs₆ : Heap.SameBut e h₅ h₆ := hs₆
      replace he₆ : IsEnumOut h₆ e z (c + 1) (.ref hp.objs.size) (hp.objs.size + 1) := he₆
      refine wpAny_setField_rec he₆ (by simp) fun h₇ he₇ hs₇ => ?_
      replace hs₇ : Heap.SameBut e h₆ h₇ := hs₇
      replace he₇ : IsEnumOut h₇ e z (c + 1) (.ref hp.objs.size) (hp.objs.size + 1) := he₇
      have hk₇ : ∀ b o, b ≠ e → h₁.get? b = some o → h₇.get? b = some o := fun b o hbe hb => hs₇.extBut b o hbe (hs₆.extBut b o hbe (hs₅.extBut b o hbe (hk₄ b o hbe hb)))
      refine wpAny_bind (wpAny_letGo (wpAny_pure ⟨_, rfl, hQ x1 x2 h₁ h₇ tk y1 y2 he₇ ⟨v', f', hk₇ _ _ ne.1.symm hz₁, hv'⟩ ⟨b1, b2, hk₇ _ _ ne.2.1.symm hTO₁⟩ ?_ ?_ hT hsz hk ?_ hk₇⟩))
      · exact D1.frame _ _ _ s1' fun b hb o y => hk₇ b o (fun q => ne.2.2.2.2.1 (q ▸ hb)) y
      · exact D2.frame _ _ _ s2' fun b hb o y => hk₇ b o (fun q => ne.2.2.2.2.2 (q ▸ hb)) y
      · exact hs₇.extBut _ _ (Nat.ne_of_gt hel) (hs₆.extBut _ _ (Nat.ne_of_gt hel) (hs₅.extBut _ _ (Nat.ne_of_gt hel) ht₄))
end
end BNZ
namespace BNZ
open PySem PySem.Calls PySem.Spec PyProof.Rows L2
open AutoSeq1 (wpAny_loadPart')
/-- the lists at a and b as they stand, the items in new pairs, these in new pairs with their numbers -/
def ItEz (K : PySem.W.Frag) (a b : Addr) : It :=
  ⟨fun i H => ∃ (xs ys : List V) (x y : V), SqL K H a xs ∧ SqL K H b ys ∧ xs[i]? = some x ∧ ys[i]? = some y,
    fun i H v H' => ∃ (T U : Addr) (x y : V), v = .ref U ∧ H T = none ∧ H U = none ∧ U ≠ T ∧ H' = upd (upd H T (.tup [x, y])) U (.tup [.int (i : Nat), .ref T]) ∧ (∀ xs, SqL K H a xs → xs[i]? = some x) ∧ ∀ ys, SqL K H b ys → ys[i]? = some y,
    fun i H => ∃ xs ys : List V, SqL K H a xs ∧ SqL K H b ys ∧ (xs.length = i ∨ ys.length = i) ∧ i ≤ xs.length ∧ i ≤ ys.length⟩
structure EzApart (e z TI TO i1 i2 a b : Addr) : Prop where
  S : ZipSep2 z TI TO i1 i2 [i1, a] [i2, b]
  ne : e ≠ z ∧ e ≠ TO ∧ e ≠ i1 ∧ e ≠ i2 ∧ e ∉ [i1, a] ∧ e ∉ [i2, b]
  eT : e ≠ TI
  a1 : a ≠ i1
  b2 : b ≠ i2
theorem turn_ez {P : Program} {w : World} {K : PySem.W.Frag} {elts : List Expr} {kk : Nat} {tpos : Pos} {e z TI TO i1 i2 a b : Addr} (D : EzApart e z TI TO i1 i2 a b) :
    Turn P w K (.Tuple elts kk tpos) (ItEz K a b) [e, z, TI, TO, i1, i2] e (fun i h => (∃ old, IsEnum h e z (i : Nat) old) ∧ (∃ v f, IsZA h z TI TO v f ∧ OwnV v) ∧ IsTupOf2 h TI (.ref i1) (.ref i2) ∧ (∃ x y, IsTupOf2 h TO x y) ∧ h.IsListIter i1 a i ∧ h.IsListIter i2 b i) where
  mem := by simp
  obj := fun i h st c hc => by
    obtain ⟨⟨old, he⟩, ⟨v, f, hz, _⟩, hTI, ⟨x, y, hTO⟩, ⟨o1, e1, _, d1⟩, ⟨o2, e2, _, d2⟩⟩ := st
    have e' : c = e ∨ c = z ∨ c = TI ∨ c = TO ∨ c = i1 ∨ c = i2 := by simpa using hc
    rcases e' with q | q | q | q | q | q
    · rw [q]; exact ⟨_, he, fun v q => nomatch q⟩
    · rw [q]; exact ⟨_, hz, fun v q => nomatch q⟩
    · rw [q]; exact ⟨_, hTI, fun v q => nomatch q⟩
    · rw [q]; exact ⟨_, hTO, fun v q => nomatch q⟩
    · rw [q]; exact ⟨o1, e1, fun v q => by rw [d1] at q; cases q⟩
    · rw [q]; exact ⟨o2, e2, fun v q => by rw [d2] at q; cases q⟩
  keep := fun i h h' st k => by
    obtain ⟨⟨old, he⟩, ⟨v, f, hz, hv⟩, hTI, ⟨x, y, hTO⟩, h1, h2⟩ := st
    exact ⟨⟨old, k e (by simp) _ he⟩, ⟨v, f, k z (by simp) _ hz, hv⟩, k TI (by simp) _ hTI, ⟨x, y, k TO (by simp) _ hTO⟩, h1.at fun o q => k i1 (by simp) o q, h2.at fun o q => k i2 (by simp) o q⟩
  item := by
    intro X hP hw hK hc i pins s σ H E I hf st hg
    subst hP hw hK
    obtain ⟨⟨old, he⟩, ⟨v, f, hz, hv⟩, hTI, ⟨x0, y0, hTO⟩, h1, h2⟩ := st
    obtain ⟨xs, ys, x, y, hqx, hqy, hx, hy⟩ := hg
    obtain ⟨its, rv, p, _⟩ := I.list hqx
    obtain ⟨its2, rv2, p2, _⟩ := I.list hqy
    obtain ⟨u, hu, ru⟩ := rv.get hx
    obtain ⟨u2, hu2, ru2⟩ := rv2.get hy
    have hh : X.A.in1.in1.handled = none := I.ok.hd hc
    have D1 := Draws.list (prog := X.prog) (w := X.w) (A := X.A.in1.in1) hh i1 a D.a1 its.toArray
    have D2 := Draws.list (prog := X.prog) (w := X.w) (A := X.A.in1.in1) hh i2 b D.b2 its2.toArray
    have hel : e < s.heap.objs.size := Heap.lt_size he
    have hTe : s.TypeIs (.ref e) "enumerate" := ⟨_, he, rfl⟩
    have lu := at_lt' hu
    have lu2 := at_lt' hu2
    unfold pyNext
    refine wpAny_bind (wpAny_attempt (wpAny_callSpecial?_slot (name := Str.ofString "__next__") hTe F.slot_enumerate_next (wpAny_call_entry F.slot_enumerate_next hTe F.entry_enumerate_next
      (ez_item D.S D1 D2 he hz hv hTI hTO ⟨h1, p.isList⟩ ⟨h2, p2.isList⟩ (by simpa using lu) (by simpa using lu2) D.ne fun x1 x2 g₁ g' tk y1 y2 ho zs tos s1' s2' hT hsz hk hU hk' => wpAny_pure ?_) (F.args_enumerate_next_1 _))))
    have ex1 : u = x1 := by simpa [hu] using y1
    have ex2 : u2 = x2 := by simpa [hu2] using y2
    subst ex1 ex2
    refine ⟨_, rfl, wpAny_letOwnedTupleGo_enum (s := { s with heap := g', toks := tk + 1 }) ho fun h'' he' sb => ?_⟩
    have k2 : ∀ c o, c ≠ e → g₁.get? c = some o → h''.get? c = some o := fun c o hc q => (sb.2 c hc).trans (hk' c o hc q)
    have hT1 : g₁.get? s.heap.objs.size = some { cls := .type "tuple", data := .seq #[u, u2] } := hT
    have hU2 : h''.get? (s.heap.objs.size + 1) = some { cls := .type "tuple", data := .seq #[.int (i : Nat) tk, .ref s.heap.objs.size] } := (sb.2 _ (Nat.ne_of_gt (Nat.lt_succ_of_lt hel))).trans hU
    have I1 : Inv X pins σ (upd H s.heap.objs.size (.tup [x, y])) { s with heap := g₁, toks := tk } :=
      I.turnedNew (t' := tk) (ch := [e, z, TI, TO, i1, i2]) (fun c o hb q => hk c o (fun q' => hb (by simp [q'])) (fun q' => hb (by simp [q'])) (fun q' => hb (by simp [q'])) (fun q' => hb (by simp [q'])) q) hf (Nat.le_refl _)
        ⟨by show 2 ≤ sizeLine; decide, [u, u2], .cons ru (.cons ru2 .nil), ⟨_, hT1, rfl, _, rfl⟩⟩
    have hfe : ∀ b ∈ [e], FpOk X pins (upd H s.heap.objs.size (.tup [x, y])) b := fun b hb => by
      rw [List.mem_singleton.mp hb]
      have q := hf e (by simp)
      exact ⟨by rw [upd_ne (Nat.ne_of_lt hel)]; exact q.1, q.2⟩
    have I2 : Inv X pins σ (upd (upd H s.heap.objs.size (.tup [x, y])) (s.heap.objs.size + 1) (.tup [.int (i : Nat), .ref s.heap.objs.size])) { s with heap := h'', toks := tk + 1 } :=
      I1.turnedNew (t' := tk + 1) (ch := [e]) (fun c o hb q => k2 c o (fun q' => hb (by simp [q'])) q) hfe (by show g₁.objs.size ≤ _; rw [hsz]; exact Nat.le_refl _)
        ⟨by show 2 ≤ sizeLine; decide, [.int (i : Nat) tk, .ref s.heap.objs.size], .cons ⟨_, rfl⟩ (.cons rfl .nil), ⟨_, hU2, rfl, _, rfl⟩⟩
    have hfN : H s.heap.objs.size = none := I.hok.fresh (Nat.le_refl _)
    have hfN1 : H (s.heap.objs.size + 1) = none := I.hok.fresh (Nat.le_succ _)
    obtain ⟨v', f', hz', hv'⟩ := zs
    obtain ⟨b1, b2, hTO'⟩ := tos
    refine ⟨.ref (s.heap.objs.size + 1), _, I2, rfl, ⟨s.heap.objs.size, s.heap.objs.size + 1, x, y, rfl, hfN, hfN1, Nat.succ_ne_self _, rfl, fun l hl => by rw [I.list_inj hl hqx]; exact hx, fun l hl => by rw [I.list_inj hl hqy]; exact hy⟩,
      ⟨⟨.ref s.heap.objs.size, ?_⟩, ⟨v', f', (sb.2 _ D.ne.1.symm).trans hz', hv'⟩, k2 _ _ D.eT.symm (hk _ _ D.S.TIz D.S.TITO D.S.TIi1 D.S.TIi2 hTI), ⟨b1, b2, (sb.2 _ D.ne.2.1.symm).trans hTO'⟩, s1'.1.at fun o q => (sb.2 _ D.ne.2.2.1.symm).trans q, s2'.1.at fun o q => (sb.2 _ D.ne.2.2.2.1.symm).trans q⟩, fun c hcm => ?_⟩
    · have e1 : ((i + 1 : Nat) : Int) = (i : Int) + 1 := by omega
      rw [e1]; exact he'
    · have hlt : c < s.heap.objs.size := by
        have e' : c = e ∨ c = z ∨ c = TI ∨ c = TO ∨ c = i1 ∨ c = i2 := by simpa using hcm
        rcases e' with q | q | q | q | q | q
        · rw [q]; exact hel
        · rw [q]; exact Heap.lt_size hz
        · rw [q]; exact Heap.lt_size hTI
        · rw [q]; exact Heap.lt_size hTO
        · rw [q]; obtain ⟨_, e1, _⟩ := h1; exact Heap.lt_size e1
        · rw [q]; obtain ⟨_, e2, _⟩ := h2; exact Heap.lt_size e2
      rw [upd_ne (Nat.ne_of_lt (Nat.lt_succ_of_lt hlt)), upd_ne (Nat.ne_of_lt hlt)]
      exact (hf c hcm).1
  done := by
    intro X hP hw hK hc i pins s σ H E I hf st hg
    subst hP hw hK
    obtain ⟨⟨old, he⟩, ⟨v, f, hz, hv⟩, hTI, ⟨x0, y0, hTO⟩, h1, h2⟩ := st
    obtain ⟨xs, ys, hqx, hqy, hend, hle1, hle2⟩ := hg
    obtain ⟨its, rv, p, _⟩ := I.list hqx
    obtain ⟨its2, rv2, p2, _⟩ := I.list hqy
    have l1 := rv.length
    have l2 := rv2.length
    have hh : X.A.in1.in1.handled = none := I.ok.hd hc
    have D1 := Draws.list (prog := X.prog) (w := X.w) (A := X.A.in1.in1) hh i1 a D.a1 its.toArray
    have D2 := Draws.list (prog := X.prog) (w := X.w) (A := X.A.in1.in1) hh i2 b D.b2 its2.toArray
    have hTe : s.TypeIs (.ref e) "enumerate" := ⟨_, he, rfl⟩
    have hTz : s.TypeIs (.ref z) "zip" := ⟨_, hz, rfl⟩
    unfold pyNext
    refine wpAny_bind (wpAny_attempt (wpAny_callSpecial?_slot (name := Str.ofString "__next__") hTe F.slot_enumerate_next
      (wpAny_call_entry F.slot_enumerate_next hTe F.entry_enumerate_next ?_ (F.args_enumerate_next_1 _))))
    show wpAny _ _ (field (.ref e) 2 >>= _) _ _ _
    refine wpAny_bind (wpAny_field he rfl (x := .ref z) rfl ?_)
    refine wpAny_bind ?_
    unfold Builtin.SmallTypes.nextOf
    refine wpAny_bind (wpAny_callSpecial?_slot (name := Str.ofString "__next__") hTz F.slot_zip_next (wpAny_call_entry F.slot_zip_next hTz F.entry_zip_next
      (za_end D.S D1 D2 hz hv hTI hTO ⟨h1, p.isList⟩ ⟨h2, p2.isList⟩ (by simp; omega) (by simp; omega) (by simp; omega) fun h' tk x hk hx => ?_) (F.args_zip_next_1 _)))
    obtain ⟨o, ho, hcl⟩ := hx
    refine wpAny_bind (wpAny_isInstance (T := "StopIteration") (b := true) ⟨o, ho, hcl⟩ isSubtype_stop ?_)
    exact wpAny_pure ⟨rfl, I.turnedL (t' := tk) (ch := [e, z, TI, TO, i1, i2]) (fun c o hb q => hk c o (fun q' => hb (by simp [q'])) (fun q' => hb (by simp [q'])) (fun q' => hb (by simp [q'])) (fun q' => hb (by simp [q'])) q) hf⟩
  self := fun A i s Q E st h => let ⟨⟨_, he⟩, _⟩ := st; wpAny_pyIter_enum he h
where
  at_lt' {α : Type} {l : List α} {i : Nat} {x : α} (h : l[i]? = some x) : i < l.length := (List.getElem?_eq_some_iff.mp h).1
end BNZ
namespace BNZ
open PySem PySem.Calls PySem.Spec PyProof.Rows L2
open AutoSeq1 (wpAny_loadPart')
abbrev enumOf (z : Addr) : Obj := { cls := .type "enumerate", data := .fields #[.none, .bool false, .ref z, rawInt 0, .none, .none] }
theorem meets_enumerate_newZ (z TI TO : Addr) :
    Meets (Builtin.«enumerate.__new__» ⟨[.type "enumerate", .ref z], []⟩) (fun _ R s => IsZip s.heap z TI TO .none ∧ R (.ok (.ret (.ref s.heap.objs.size))) { s with heap := s.heap.push (enumOf z) }) :=
  .of_wp fun prog w A R s h => by
    obtain ⟨hp, g, d, tk, os⟩ := s; obtain ⟨hl, h⟩ := h
    have hsub := sub_enumerate
    have hZ : IsZip (Shared.heap ⟨hp, g, d, tk, os⟩) z TI TO .none := hl
    wp_walk using wpAny_loadPart' hl
    refine wpAny_stack_any fun st => wpAny_pure ?_
    split
    · rename_i c _ _ _ _ _
      cases (c == Value.type "enumerate")
      · wp_walk using wpAny_loadPart' hl, wpAny_pyIter_zip hZ
        exact ⟨_, rfl, h⟩
      · wp_walk using wpAny_loadPart' hl, wpAny_pyIter_zip hZ
        exact ⟨_, rfl, h⟩
    · wp_walk using wpAny_loadPart' hl, wpAny_pyIter_zip hZ
      exact ⟨_, rfl, h⟩
section
variable {prog : Program} {w : World} {A : Around} {E : Value → Shared → Prop} {s : Shared}
theorem call_enumZ {z TI TO : Addr} {Q : Value → Shared → Prop} (hz : IsZip s.heap z TI TO .none)
    (h : Q (.ref s.heap.objs.size) { s with heap := s.heap.push (enumOf z) }) : wpAny (model prog w) A (call (.type "enumerate") [.ref z]) Q E s := by
  refine callType_new F.called_enumerate (by decide) (F.typeCall_enumerate_1 _) (F.newCall_enumerate_1 _) (fun obj => F.args_object_init_2 obj _) F.entry_enumerate_new
    (meets_enumerate_newZ z TI TO) ⟨hz, ?_⟩
  exact ⟨⟨_, Heap.get?_push_size _ rfl, rfl⟩, h⟩
end
def iEz (K : PySem.W.Frag) (ta : TA) : TI := fun σ H R => ta σ H fun vs H1 => ∃ a b xs ys, vs = [.ref a, .ref b] ∧ SqL K H1 a xs ∧ SqL K H1 b ys ∧ R (ItEz K a b) H1
theorem pi_ez {X : Cx} {e e2 : Expr} {ta : TA} {p p2 pos pos2 tpos : Pos} {elts : List Expr} {kk : Nat} (hge : Gl X "enumerate") (hme : X.mg "enumerate" = none) (hg : Gl X "zip") (hm : X.mg "zip" = none) (ha : PA X [e, e2] ta)
    (hso : starEach [.Call (.Name "zip" p2) [e, e2] [] pos2] X.env = (false, eval (.Call (.Name "zip" p2) [e, e2] [] pos2) X.env) :: starEach [] X.env := by rfl)
    (hs : starEach [e, e2] X.env = (false, eval e X.env) :: starEach [e2] X.env := by rfl) (hpl : (backTo pos2 (starEach [e2] X.env)).any (·.1) = false := by rfl) :
    PI X (.Tuple elts kk tpos) (.Call (.Name "enumerate" p) [.Call (.Name "zip" p2) [e, e2] [] pos2] [] pos) (iEz X.K ta) := by
  refine ⟨fun pins s σ H R I h => ?_⟩
  refine Call_ (ld_blt I hge hme boot_enumerate (PyProof.Rows.callWith_type1 ?_ hso rfl))
  rw [hso]
  show wpAny _ _ (spliced ((false, eval (.Call (.Name "zip" p2) [e, e2] [] pos2) X.env) :: backTo pos (starEach [] X.env))) _ _ s
  refine Calls.spliced_cons ?_
  refine Call_ (ld_blt I hg hm PyProof.Rows.boot_zip (PyProof.Rows.callWith_type1 (thn (ha.run pos2 pins s σ H _ I h) fun us s1 ⟨vs, H1, I1, r1, q1⟩ => ?_) hs hpl))
  obtain ⟨a, b, xs, ys, ex, hqx, hqy, q⟩ := q1
  subst ex
  cases r1 with
  | cons r rr =>
    cases rr with
    | cons r' rr =>
      cases rr
      cases r
      cases r'
      obtain ⟨its, rv, p1, _⟩ := I1.list hqx
      obtain ⟨its2, rv2, p2, _⟩ := I1.list hqy
      have la : a < s1.heap.objs.size := p1.lt
      have lb : b < s1.heap.objs.size := p2.lt
      refine call_zip_2 p1.isList p2.isList fun h' hz hTI hTO h1 h2 hsz hk => ?_
      refine Calls.spliced_nil ?_
      refine call_enumZ hz ?_
      have up : ∀ c o, h'.get? c = some o → (h'.push (enumOf (s1.heap.objs.size + 4))).get? c = some o := fun c o e => Heap.get?_push_of_some _ e
      have he : IsEnum (h'.push (enumOf (s1.heap.objs.size + 4))) (s1.heap.objs.size + 5) (s1.heap.objs.size + 4) 0 .none := by
        have := Heap.get?_push_size h' (o := enumOf (s1.heap.objs.size + 4)) rfl
        rw [hsz] at this; exact this
      show wpAny _ _ (pyIter (.ref h'.objs.size)) _ _ _
      rw [hsz]
      refine wpAny_pyIter_enum he ?_
      have I2 : Inv X pins σ H1 { s1 with heap := h'.push (enumOf (s1.heap.objs.size + 4)) } := I1.kept (t' := s1.toks) fun c o e => up c o (hk c o e)
      have ne5 : ∀ k : Nat, k < 5 → (s1.heap.objs.size + 5 : Nat) ≠ s1.heap.objs.size + k := fun k hk => by omega
      have D : EzApart (s1.heap.objs.size + 5) (s1.heap.objs.size + 4) (s1.heap.objs.size + 2) (s1.heap.objs.size + 3) s1.heap.objs.size (s1.heap.objs.size + 1) a b :=
        ⟨zip_sep2 (N := s1.heap.objs.size) (fp1 := [a]) (fp2 := [b]) (fun c hc => by rw [List.mem_singleton.mp hc]; exact la) (fun c hc => by rw [List.mem_singleton.mp hc]; exact lb),
          ⟨ne5 4 (by decide), ne5 3 (by decide), ne5 0 (by decide), ne5 1 (by decide), fun hc => by
            rcases List.mem_cons.mp hc with e | e
            · exact ne5 0 (by decide) e
            · have q : (s1.heap.objs.size + 5 : Nat) = a := List.mem_singleton.mp e
              exact absurd la (Nat.not_lt.mpr (by rw [← q]; exact Nat.le_add_right _ _)), fun hc => by
            rcases List.mem_cons.mp hc with e | e
            · exact ne5 1 (by decide) e
            · have q : (s1.heap.objs.size + 5 : Nat) = b := List.mem_singleton.mp e
              exact absurd lb (Nat.not_lt.mpr (by rw [← q]; exact Nat.le_add_right _ _))⟩, ne5 2 (by decide), Nat.ne_of_lt la, Nat.ne_of_lt (Nat.lt_succ_of_lt lb)⟩
      refine ⟨s1.heap.objs.size + 5, [s1.heap.objs.size + 5, s1.heap.objs.size + 4, s1.heap.objs.size + 2, s1.heap.objs.size + 3, s1.heap.objs.size, s1.heap.objs.size + 1], _, _, H1, rfl, I2, turn_ez D,
        ⟨⟨.none, he⟩, ⟨.none, false, up _ _ hz, .inl rfl⟩, up _ _ hTI, ⟨_, _, up _ _ hTO⟩, h1.at fun o q => up _ o q, h2.at fun o q => up _ o q⟩, fun c hcm => ?_, q⟩
      have e' : c = s1.heap.objs.size + 5 ∨ c = s1.heap.objs.size + 4 ∨ c = s1.heap.objs.size + 2 ∨ c = s1.heap.objs.size + 3 ∨ c = s1.heap.objs.size ∨ c = s1.heap.objs.size + 1 := by simpa using hcm
      have hle : s1.heap.objs.size ≤ c := by
        rcases e' with z | z | z | z | z | z
        · rw [z]; exact Nat.le_add_right _ _
        · rw [z]; exact Nat.le_add_right _ _
        · rw [z]; exact Nat.le_add_right _ _
        · rw [z]; exact Nat.le_add_right _ _
        · rw [z]; exact Nat.le_refl _
        · rw [z]; exact Nat.le_add_right _ _
      exact I1.fpOk hle (I1.hok.fresh hle)
/-- a loop over it -/
theorem for_ez {K : PySem.W.Frag} {a b : Addr} {xs ys : List V} {g : TG} {tb : TS} {D : Ends} {σ : L2.St} {H : Hp} (Pv : Nat → L2.St → Hp → Prop) (h0 : Pv 0 σ H) (hq : ∀ i σ H, Pv i σ H → SqL K H a xs ∧ SqL K H b ys)
    (hs : ∀ (i : Nat) (x y : V) (T U : Addr) (σ : L2.St) (H : Hp), xs[i]? = some x → ys[i]? = some y → Pv i σ H → H T = none → H U = none → U ≠ T → g (.ref U) σ (upd (upd H T (.tup [x, y])) U (.tup [.int (i : Nat), .ref T])) fun σ2 H2 => tb { D with nx := Pv (i + 1), ct := Pv (i + 1), bk := D.nx } σ2 H2)
    (hd : ∀ σ H, Pv (min xs.length ys.length) σ H → D.nx σ H) :
    ∃ W : Nat → Nat → L2.St → Hp → Prop, (∃ m, W 0 m σ H) ∧ ∀ i m σ H, W i m σ H →
      ((ItEz K a b).stop i H ∧ D.nx σ H) ∨ ((ItEz K a b).go i H ∧ ∃ N : L2.St → Hp → Prop, (∀ σ' H', N σ' H' → ∃ m', m' < m ∧ W (i + 1) m' σ' H') ∧ ∀ v H', (ItEz K a b).yld i H v H' → g v σ H' fun σ2 H2 => tb { D with nx := N, ct := N, bk := D.nx } σ2 H2) := by
  refine ⟨fun i m σ H => m = min xs.length ys.length - i ∧ i ≤ min xs.length ys.length ∧ Pv i σ H, ⟨min xs.length ys.length, rfl, Nat.zero_le _, h0⟩, ?_⟩
  rintro i m σ H ⟨rfl, hi, p⟩
  obtain ⟨qx, qy⟩ := hq i σ H p
  by_cases hlt : i < min xs.length ys.length
  · have l1 : i < xs.length := by omega
    have l2 : i < ys.length := by omega
    have hx : xs[i]? = some xs[i] := List.getElem?_eq_getElem l1
    have hy : ys[i]? = some ys[i] := List.getElem?_eq_getElem l2
    refine .inr ⟨⟨xs, ys, _, _, qx, qy, hx, hy⟩, Pv (i + 1), fun σ' H' p' => ⟨min xs.length ys.length - (i + 1), by omega, rfl, hlt, p'⟩, fun v H' y => ?_⟩
    obtain ⟨T, U, x', y', rfl, hT, hU, hne, rfl, f1, f2⟩ := y
    exact hs i x' y' T U σ H (f1 xs qx) (f2 ys qy) p hT hU hne
  · have e : i = min xs.length ys.length := by omega
    subst e
    exact .inl ⟨⟨xs, ys, qx, qy, by omega, by omega, by omega⟩, hd σ H p⟩
end BNZ
namespace BN
open PySem L2 PyProof.Rows
/-! ### first_parting, parting -/
def encPt : Option PT → PyData
  | none => .none
  | some (k, x, i, j) => .tuple [.int (k : Int), .str x, .int i, .int j]
theorem tup_pt (o : Option PT) : tupD (encPt o) = true := by
  cases o with
  | none => rfl
  | some r => obtain ⟨k, x, i, j⟩ := r; simp [encPt, tupD, tupDs]
theorem inv_row {K : PySem.W.Frag} {H : Hp} {v : V} {r : Row} (h : Dp K H v (encRow r)) : ∃ t, v = .ref t ∧ SqT K H t [.str r.1, .int (r.2.1 : Int), .int r.2.2] := by
  obtain ⟨t, xs, rfl, hT, ha⟩ := h.tup_inv
  obtain ⟨a, b, c, rfl, h1, h2, h3⟩ := all3 ha
  cases h1; cases h2; cases h3
  exact ⟨t, rfl, hT⟩
theorem near_near : decide (("near" : Str) = "near") = true := by decide +kernel
theorem called_near : decide (("called" : Str) = "near") = false := by decide +kernel
theorem ne_int (i j : Int) : (!decide (V.int i = V.int j)) = !decide (i = j) := by
  congr 1
  exact decide_eq_decide.mpr ⟨fun z => V.int.inj z, fun z => by rw [z]⟩
abbrev fpt (ins : List Str) (pt : Part) (ns : List Int) : Option PT := firstP (mean true ins pt ns).rows (mean false ins pt ns).rows 0
def spFirst (K : PySem.W.Frag) : Sp := fun vs H Q _ => ∃ (v : V) (tn : Addr) (ins : List Str) (pt : Part) (ns : List Int), vs = [v, .ref tn] ∧ Dp K H v (encP ins pt) ∧ SqT K H tn (ns.map V.int) ∧ RunOk ins pt ns ∧
  ∀ u H', Fr c0 H H' → Dp K H' u (encPt (fpt ins pt ns)) → Q u H'
def t_first (K : PySem.W.Frag) (cRms : Addr) : TS :=
  (tSeq (tAsg (tFld K (tOp (rIxT K) (tCall (spGone K cRms) [] C8.E0 (tCons (tVar 0) (tCons (tVar 1) (tCons (tC (.str "near")) tNil)))) (tC (.int 0))) "rows") (gName 2))
    (tSeq (tAsg (tFld K (tOp (rIxT K) (tCall (spGone K cRms) [] C8.E0 (tCons (tVar 0) (tCons (tVar 1) (tCons (tC (.str "called")) tNil)))) (tC (.int 0))) "rows") (gName 3))
    (tSeq (tFor (BNZ.iEz K (tCons (tVar 2) (tCons (tVar 3) tNil))) (gTup K 2 (gCons (gName 4) (gCons (gName 5) gNil))) (tIfS (tTest (tOp rNe (tOp (rIxT K) (tOp (rIxT K) (tVar 5) (tC (.int 0))) (tC (.int 2))) (tOp (rIxT K) (tOp (rIxT K) (tVar 5) (tC (.int 1))) (tC (.int 2))))) (tRet (tTup (tCons (tVar 4) (tCons (tOp (rIxT K) (tOp (rIxT K) (tVar 5) (tC (.int 0))) (tC (.int 0))) (tCons (tOp (rIxT K) (tOp (rIxT K) (tVar 5) (tC (.int 0))) (tC (.int 2))) (tCons (tOp (rIxT K) (tOp (rIxT K) (tVar 5) (tC (.int 1))) (tC (.int 2))) tNil)))))) tNext))
    (tRet (tC .non)))))
theorem pure_first {K : PySem.W.Frag} {C : Addr} (T : RmsC K C) (vs : List V) (H : Hp) (Q : VK) (E : XK) (h : spFirst K vs H Q E) : t_first K C { nx := fun _ H' => Q .non H', rt := Q } (start ["program", "numbers", "near", "called", "place", "rows"] vs) H := by
  obtain ⟨v, tn, ins, pt, ns, rfl, hd, hN, O, k⟩ := h
  refine ⟨_, rfl, _, rfl, v, tn, "near", ins, pt, ns, rfl, hd, hN, O, fun t p dx ar sa H1 f1 _ _ _ hT hp TA => ?_⟩
  rw [near_near] at hT hp TA
  refine ⟨t, _, _, _, rfl, rfl, hT, rfl, p, C, dx, _, _, rfl, hp, T.cl, T.nR, flR_rows _ _ _, ?_⟩
  refine ⟨_, rfl, _, rfl, v, tn, "called", ins, pt, ns, rfl, Dp.fr f1 _ _ (tup_encP ins pt) hd, f1.sqT hN, O, fun t2 p2 dx2 ar2 sa2 H2 f2 _ _ _ hT2 hp2 TA2 => ?_⟩
  rw [called_near] at hT2 hp2 TA2
  refine ⟨t2, _, _, _, rfl, rfl, hT2, rfl, p2, C, dx2, _, _, rfl, hp2, T.cl, T.nR, flR_rows _ _ _, ?_⟩
  obtain ⟨rv1, e1, d1⟩ := (TA.fr f2).rw
  obtain ⟨rv2, e2, d2⟩ := TA2.rw
  have f12 := f1.trans f2
  refine ⟨_, rfl, _, rfl, ar, ar2, rv1, rv2, rfl, SqL.of e1, SqL.of e2, ?_⟩
  have l1 : rv1.length = (mean true ins pt ns).rows.length := by rw [d1.len, List.length_map]
  have l2 : rv2.length = (mean false ins pt ns).rows.length := by rw [d2.len, List.length_map]
  refine BNZ.for_ez (K := K) (a := ar) (b := ar2) (xs := rv1) (ys := rv2) (fun i σ H' => ∃ s4 s5, σ = [some v, some (.ref tn), some (.ref ar), some (.ref ar2), s4, s5] ∧ Fr c0 H2 H' ∧ firstP ((mean true ins pt ns).rows.take i) ((mean false ins pt ns).rows.take i) 0 = none)
    ⟨_, _, rfl, Fr.refl _, by simp [firstP]⟩ (fun i σ H' ⟨_, _, _, f', _⟩ => ⟨SqL.of (f'.at e1 (fun z => z)), SqL.of (f'.at e2 (fun z => z))⟩) ?_ ?_
  · rintro i x y T1 U σ H' hx hy ⟨s4, s5, rfl, f', hn⟩ hT1 hU hne
    obtain ⟨da, ha, Da⟩ := d1.getV hx
    obtain ⟨ra, hra, rfl⟩ := map_at ha
    obtain ⟨db, hb, Db⟩ := d2.getV hy
    obtain ⟨rb, hrb, rfl⟩ := map_at hb
    obtain ⟨ta, rfl, hta⟩ := inv_row Da
    obtain ⟨tb, rfl, htb⟩ := inv_row Db
    have g1 : Fr c0 H' (upd H' T1 (.tup [.ref ta, .ref tb])) := Fr.new hT1
    have hU1 : (upd H' T1 (.tup [.ref ta, .ref tb])) U = none := by rw [upd_ne hne]; exact hU
    have g2 : Fr c0 (upd H' T1 (.tup [.ref ta, .ref tb])) (upd (upd H' T1 (.tup [.ref ta, .ref tb])) U (.tup [.int (i : Nat), .ref T1])) := Fr.new hU1
    have g := g1.trans g2
    have hTT : SqT K (upd (upd H' T1 (.tup [.ref ta, .ref tb])) U (.tup [.int (i : Nat), .ref T1])) T1 [.ref ta, .ref tb] := SqT.of (g2.tup upd_same)
    have hta' := (f'.trans g).sqT hta
    have htb' := (f'.trans g).sqT htb
    refine ⟨U, _, rfl, SqT.of upd_same, rfl, _, _, rfl, _, _, rfl, rfl, ?_⟩
    generalize (upd (upd H' T1 (.tup [.ref ta, .ref tb])) U (.tup [.int (i : Nat), .ref T1])) = H3 at g hTT hta' htb' ⊢
    refine ⟨_, rfl, T1, _, _, _, rfl, rfl, hTT, rfl, ta, _, _, _, rfl, rfl, hta', rfl, _, rfl, T1, _, _, _, rfl, rfl, hTT, rfl, tb, _, _, _, rfl, rfl, htb', rfl, rfl, _, rfl, ?_⟩
    rw [ne_int]
    by_cases q : ra.2.2 = rb.2.2
    · refine ifF (by rw [decide_eq_true q]; rfl) ?_
      exact ⟨_, _, rfl, f'.trans g, by rw [firstP_eq hra hrb q]; exact hn⟩
    · refine ifT (by rw [decide_eq_false q]; rfl) ?_
      refine ⟨_, rfl, _, rfl, T1, _, _, _, rfl, rfl, hTT, rfl, ta, _, _, _, rfl, rfl, hta', rfl, _, rfl, T1, _, _, _, rfl, rfl, hTT, rfl, ta, _, _, _, rfl, rfl, hta', rfl, _, rfl, T1, _, _, _, rfl, rfl, hTT, rfl, tb, _, _, _, rfl, rfl, htb', rfl, one_sz (by show 4 ≤ 1000; decide), fun t3 ht3 => ?_⟩
      refine k _ _ (((f12.trans f').trans g).trans (Fr.new ht3)) ?_
      have := (firstP_ne (n := 0) hn hra hrb q).1
      rw [Nat.zero_add] at this
      rw [show fpt ins pt ns = _ from this]
      exact .tup (SqT.of upd_same) (.cons (.int _) (.cons (.str _) (.cons (.int _) (.cons (.int _) .nil))))
  · rintro σ H' ⟨s4, s5, rfl, f', hn⟩
    rw [l1, l2, firstP_min] at hn
    refine k _ _ (f12.trans f') ?_
    rw [show fpt ins pt ns = none from hn]
    exact .non
def spParting (K : PySem.W.Frag) : Sp := spFirst K
def t_parting (K : PySem.W.Frag) : TS :=
  (tSeq (tDrop (tCall (spCheckR K) [] C8.E0 (tCons (tVar 0) (tCons (tVar 1) (tCons (tC (.str "near")) tNil)))))
    (tRet (tCall (spFirst K) [] C8.E0 (tCons (tVar 0) (tCons (tVar 1) tNil)))))
theorem pure_parting {K : PySem.W.Frag} (vs : List V) (H : Hp) (Q : VK) (E : XK) (h : spParting K vs H Q E) : t_parting K { nx := fun _ H' => Q .non H', rt := Q } (start ["program", "numbers"] vs) H := by
  obtain ⟨v, tn, ins, pt, ns, rfl, hd, hN, O, k⟩ := h
  refine ⟨_, rfl, _, rfl, v, tn, "near", ins, pt, ns, rfl, hd, O.ok, hN, O.len, O.rg, .inl rfl, fun H1 f1 => ?_⟩
  exact ⟨_, rfl, _, rfl, v, tn, ins, pt, ns, rfl, Dp.fr f1 _ _ (tup_encP ins pt) hd, f1.sqT hN, O, fun u H' f' d => k u H' (f1.trans f') d⟩
end BN
namespace BN
open PySem L2 PyProof.Rows
/-! ### the law's rooms: a room, a reading -/
theorem refs_of {K : PySem.W.Frag} {H : Hp} : ∀ {vs : List V} {ds : List PyData} {F : Nat → PyData → Prop}, DpAll K H vs ds → (∀ (k : Nat) (d : PyData), ds[k]? = some d → F k d) → (∀ k d, F k d → ∃ l, d = .tuple l) →
    ∃ ts : List Addr, vs = ts.map V.ref ∧ ts.length = ds.length ∧ ∀ (k : Nat) (t : Addr), ts[k]? = some t → ∃ xs l, SqT K H t xs ∧ DpAll K H xs l ∧ F k (.tuple l)
  | _, _, F, .nil, _, _ => ⟨[], rfl, rfl, fun k t h => by simp at h⟩
  | _, _, F, .cons (ds := ds) h1 t, hF, hl => by
    obtain ⟨l, rfl⟩ := hl 0 _ (hF 0 _ rfl)
    obtain ⟨a, xs, rfl, hs, ha⟩ := h1.tup_inv
    obtain ⟨ts, rfl, h2, h3⟩ := refs_of (F := fun k => F (k + 1)) t (fun k d hk => hF (k + 1) d (by simpa using hk)) fun k d h => hl _ _ h
    refine ⟨a :: ts, rfl, by simp [h2], fun k t hk => ?_⟩
    cases k with
    | zero =>
      have e : a = t := by simpa using hk
      subst e
      exact ⟨xs, l, hs, ha, hF 0 _ rfl⟩
    | succ k => exact h3 k t (by simpa using hk)
def spLRoom (K : PySem.W.Frag) : Sp := fun vs H Q _ => ∃ (tp tn : Addr) (ps : List Str) (ns : List Int), vs = [.ref tp, .ref tn] ∧ SqT K H tp (ps.map V.str) ∧ (SqL K H tn (ns.map V.int) ∨ SqT K H tn (ns.map V.int)) ∧ ps.length = ns.length ∧ ps.Nodup ∧ ps.length ≤ 1000 ∧
  ∀ (q : Addr) H', Fr c0 H H' → H q = none → H' q = some (.dK (roomK (ps.zip ns))) → Q (.ref q) H'
def t_lroom (K : PySem.W.Frag) : TS :=
  (tRet (tCB (rDictP K) (tCons (tLc (iRng1 (tCons (tCB (rLenSq K) (tCons (tVar 0) tNil)) tNil)) (gName 2) tYes (tTup (tCons (tOp (rIxT K) (tVar 0) (tVar 2)) (tCons (tOp (rIx K) (tVar 1) (tVar 2)) tNil))) [2]) tNil)))
theorem pure_lroom {K : PySem.W.Frag} (vs : List V) (H : Hp) (Q : VK) (E : XK) (h : spLRoom K vs H Q E) : t_lroom K { nx := fun _ H' => Q .non H', rt := Q } (start ["names", "numbers", "k"] vs) H := by
  obtain ⟨tp, tn, ps, ns, rfl, hP, hN, hl, hnd, h1000, k⟩ := h
  refine ⟨_, rfl, tp, _, rfl, .inr hP, ((ps.map V.str).length : Nat), rfl, by rw [List.length_map]; omega, by rw [List.length_map]; omega, ?_⟩
  have ix : ∀ {H' : Hp} {i : Nat} {y : Int} {σ : L2.St} {R : VK}, (SqL K H' tn (ns.map V.int) ∨ SqT K H' tn (ns.map V.int)) → ns[i]? = some y → σ[1]? = some (some (.ref tn)) → σ[2]? = some (some (.int (0 + (i : Nat)))) → R (.int y) H' → tOp (rIx K) (tVar 1) (tVar 2) σ H' R :=
    fun {H' i y σ R} hp hz h1 h2 r => by
      have e : (0 + (i : Nat) : Int) = ((i : Nat) : Int) := Int.zero_add _
      rw [e] at h2
      have hz' : (ns.map V.int)[i]? = some (.int y) := by rw [List.getElem?_map, hz]; rfl
      rcases hp with hp | hp
      · exact ⟨_, h1, _, h2, .inl ⟨tn, _, _, _, rfl, rfl, hp, atI_nat hz', r⟩⟩
      · exact ⟨_, h1, _, h2, .inr (.inl ⟨tn, _, _, _, rfl, rfl, hp, atI_nat hz', r⟩)⟩
  refine lcG_range (K := K) (n := (ps.map V.str).length) (C := c0) (I := fun _ => True) (Good := fun i d => ∃ x y, ps[i]? = some x ∧ ns[i]? = some y ∧ d = .tuple [.str x, .int y]) (fun _ _ _ _ _ => trivial) (fun _ _ _ z => z) trivial (by rw [List.length_map]; omega) (fun i hi H' f' _ Q' hQ => ?_) fun D vs ds H2 hD e da dl dg f2 _ => ?_
  · rw [List.length_map] at hi
    obtain ⟨x, hx⟩ := get_lt hi
    obtain ⟨y, hy⟩ := get_lt (l := ns) (i := i) (by omega)
    have hx' : (ps.map V.str)[i]? = some (.str x) := by rw [List.getElem?_map, hx]; rfl
    have e0 : (0 + (i : Nat) : Int) = ((i : Nat) : Int) := Int.zero_add _
    refine ⟨_, rfl, _, rfl, tp, _, _, _, rfl, rfl, f'.sqT hP, by rw [e0]; exact atI_nat hx', ?_⟩
    refine ix (hN.imp (fun z => f'.sqL (fun _ z => z) z) (fun z => f'.sqT z)) hy rfl rfl ⟨one_sz (by show 2 ≤ 1000; decide), fun t ht => ?_⟩
    exact hQ (.tuple [.str x, .int y]) _ _ ⟨x, y, hx, hy, rfl⟩ rfl (.tup (SqT.of upd_same) (.cons (.str _) (.cons (.int _) .nil))) (Fr.new ht) trivial
  · obtain ⟨ts, rfl, h2, h3⟩ := refs_of (F := fun i d => ∃ x y, ps[i]? = some x ∧ ns[i]? = some y ∧ d = .tuple [.str x, .int y]) da (fun k d hk => (dg k d hk).1) fun k d ⟨x, y, _, _, e⟩ => ⟨_, e⟩
    rw [List.length_map] at dl
    refine ⟨D, ts, roomK (ps.zip ns), rfl, SqL.of e, ?_, fun q hq => ?_⟩
    · refine paired_of (by unfold roomK; rw [List.length_map, List.length_zip]; omega) fun j t kv e1 e2 => ?_
      obtain ⟨xs, l, g1, g2, x, y, g3, g4, g5⟩ := h3 j t e1
      cases g5
      obtain ⟨a, b, rfl, d1, d2⟩ := all2 g2
      cases d1; cases d2
      unfold roomK at e2
      obtain ⟨⟨a, b⟩, g6, rfl⟩ := map_at e2
      rw [List.getElem?_zip_eq_some] at g6
      rw [g3] at g6; rw [g4] at g6
      cases g6.1; cases g6.2
      exact g1
    · rw [merge_zip hnd hl]
      exact k q _ (f2.trans (Fr.new hq)) (f2.free _ hq) upd_same
/-! ### a reading -/
def SL (r1 r2 : Addr) : PS' := fun H a xs => H a = some (.lst xs) ∧ a ≠ r1 ∧ a ≠ r2
theorem stayL {r1 r2 : Addr} : PStay (SL r1 r2) (cT r1 r2) := fun _ _ _ _ f h => ⟨f.at h.1 fun z => by rcases z.1 with z | z; exact h.2.1 z; exact h.2.2 z, h.2⟩
theorem stayL0 {r1 r2 : Addr} : PStay (SL r1 r2) c0 := fun _ _ _ _ f h => ⟨f.at h.1 fun z => z, h.2⟩
def hasAt (P : List Room) (x : Str) (k : Nat) : Bool := match P[k]? with | some r => (r.lookup x).isSome | none => false
theorem filt_nil {α : Type} {f : α → Bool} : ∀ {l : List α}, (∀ a ∈ l, f a = false) → l.filter f = []
  | [], _ => rfl
  | a :: l, h => by rw [List.filter_cons_of_neg (by rw [h a (List.mem_cons_self ..)]; decide), filt_nil fun b hb => h b (List.mem_cons_of_mem _ hb)]
theorem has_filt {P : List Room} {x : Str} (h : hasR P x) : (List.range P.length).filter (hasAt P x) = (List.range (P.length - 1 - (rd P x).1)).filter (hasAt P x) ++ [P.length - 1 - (rd P x).1] := by
  obtain ⟨r, l1, a1, b1⟩ := rd_at h
  have e : P.length = (P.length - 1 - (rd P x).1 + 1) + (rd P x).1 := by omega
  have e1 : List.range P.length = List.range (P.length - 1 - (rd P x).1 + 1) ++ (List.range (rd P x).1).map (P.length - 1 - (rd P x).1 + 1 + ·) := by
    conv => lhs; rw [e]
    exact List.range_add
  rw [e1, List.filter_append, List.range_succ, List.filter_append]
  have e2 : ((List.range (rd P x).1).map (P.length - 1 - (rd P x).1 + 1 + ·)).filter (hasAt P x) = [] := by
    refine filt_nil fun k hk => ?_
    obtain ⟨j, hj, rfl⟩ := List.mem_map.mp hk
    have hj := List.mem_range.mp hj
    obtain ⟨r', l2, a2, b2⟩ := rd_lt (P := P) (x := x) (k := (rd P x).1 - 1 - j) (by omega)
    have ei : P.length - 1 - ((rd P x).1 - 1 - j) = P.length - 1 - (rd P x).1 + 1 + j := by omega
    rw [ei] at a2
    simp only [hasAt, a2, b2]; rfl
  have e3 : [P.length - 1 - (rd P x).1].filter (hasAt P x) = [P.length - 1 - (rd P x).1] := by
    rw [List.filter_cons_of_pos (by simp only [hasAt, a1, b1]; rfl)]; rfl
  rw [e2, e3, List.append_nil]
def spLRead (K : PySem.W.Frag) : Sp := fun vs H Q _ => ∃ (x : Str) (ap told r1 r2 : Addr) (P : List Room) (rows : List Row) (said : List Int), vs = [.str x, .ref ap, .ref told] ∧ SqT K H told [.ref r1, .ref r2] ∧
  TAt K H r1 r2 rows said ∧ PileAt (SL r1 r2) H ap P ∧ hasR P x ∧ P.length ≤ 1000 ∧ rows.length < 16000000 ∧
  ∀ H', Fr (cT r1 r2) H H' → TAt K H' r1 r2 (rows ++ [(x, (rd P x).1, (rd P x).2)]) said → Q (.int (rd P x).2) H'
def t_lread (K : PySem.W.Frag) : TS :=
  (tSeq (tAsg (tLc (iRng1 (tCons (tCB (rLenSq K) (tCons (tVar 1) tNil)) tNil)) (gName 4) (tB (tDIn (tVar 0) (tOp (rIxL K) (tVar 1) (tVar 4)))) (tVar 4) [4]) (gName 3))
    (tSeq (tDrop (tBM K "list" rAppend (tOp (rIxT K) (tVar 2) (tC (.int 0))) (tCons (tTup (tCons (tVar 0) (tCons (tOp oSub (tOp oSub (tCB (rLenSq K) (tCons (tVar 1) tNil)) (tC (.int 1))) (tOp (rIxL K) (tVar 3) (tUn oNeg (tC (.int 1))))) (tCons (tDGet (tOp (rIxL K) (tVar 1) (tOp (rIxL K) (tVar 3) (tUn oNeg (tC (.int 1))))) (tVar 0)) tNil)))) tNil)))
    (tRet (tDGet (tOp (rIxL K) (tVar 1) (tOp (rIxL K) (tVar 3) (tUn oNeg (tC (.int 1))))) (tVar 0)))))
theorem pure_lread {K : PySem.W.Frag} (vs : List V) (H : Hp) (Q : VK) (E : XK) (h : spLRead K vs H Q E) : t_lread K { nx := fun _ H' => Q .non H', rt := Q } (start ["name", "pile", "told", "some", "k"] vs) H := by
  obtain ⟨x, ap, told, r1, r2, P, rows, said, rfl, hTo, TA, PA, hx, hl, hn, k⟩ := h
  obtain ⟨ds, h1, h2, h3⟩ := PA.ex
  have room : ∀ {j : Nat} {r : Room}, P[j]? = some r → ∃ d : Addr, atI (ds.map V.ref) (j : Int) = some (.ref d) ∧ H d = some (.dK (roomK r)) := fun {j r} e => by
    have lt : j < ds.length := by have := at_lt e; omega
    obtain ⟨d, hd⟩ := get_lt lt
    exact ⟨d, atI_nat (by rw [List.getElem?_map, hd]; rfl), h3 _ d r hd e⟩
  have hA : SqL K H ap (ds.map V.ref) := SqL.of h1.1
  have lm : (ds.map V.ref).length = P.length := by rw [List.length_map, h2]
  refine ⟨_, rfl, ap, _, rfl, .inl hA, ((ds.map V.ref).length : Nat), rfl, by omega, by omega, ?_⟩
  intro D hD
  refine lc_range (lo := 0) (n := (ds.map V.ref).length) (fun i H' => H' D = some (.lst (((List.range i).filter (hasAt P x)).map fun k : Nat => V.int (k : Int))) ∧ Fr c0 H H') ⟨upd_same, Fr.new hD⟩ (fun i H' hi ⟨g1, g2⟩ => ⟨wipe1 _ _ _, ?_⟩) fun H' ⟨g1, g2⟩ => ?_
  · rw [lm] at hi
    obtain ⟨r, hr⟩ := get_lt hi
    obtain ⟨d, e1, e2⟩ := room hr
    have e0 : (0 + (i : Nat) : Int) = ((i : Nat) : Int) := Int.zero_add _
    refine ⟨_, rfl, _, rfl, _, rfl, ap, _, _, _, rfl, rfl, g2.sqL (fun _ z => z) hA, by rw [e0]; exact e1, d, _, rfl, DGet.k (k := Sum.inr x) (g2.at e2 (fun z => z)), _, rfl, ?_⟩
    have eh : (valV (roomK r) (Sum.inr x)).isSome = hasAt P x i := by rw [valV_room, hasAt, hr]; simp
    rw [eh]
    have er : (List.range (i + 1)).filter (hasAt P x) = (List.range i).filter (hasAt P x) ++ (if hasAt P x i = true then [i] else []) := by
      rw [List.range_succ, List.filter_append]
      cases q : hasAt P x i <;> simp [q]
    cases q : hasAt P x i with
    | true =>
      refine iteT ⟨_, rfl, _, g1, ?_, ?_, g2.fresh hD⟩
      · refine Nat.lt_of_le_of_lt (m := 1000) ?_ (small1000 (Nat.le_refl _))
        rw [List.length_map]
        have := List.length_filter_le (hasAt P x) (List.range i)
        rw [List.length_range] at this
        omega
      · rw [er, q, e0, List.map_append]; exact upd_same
    | false =>
      refine iteF ⟨?_, g2⟩
      rw [er, q]; simpa using g1
  · rw [lm, has_filt hx, List.map_append] at g1
    obtain ⟨r, l1, a1, b1⟩ := rd_at hx
    obtain ⟨d, e1, e2⟩ := room a1
    have e2' := g2.at e2 (fun z => z)
    have hA' := g2.sqL (fun _ z => z) hA
    have TA' := TA.fr g2
    have ev : valV (roomK r) (Sum.inr x) = some (.int (rd P x).2) := by rw [valV_room, b1]; rfl
    obtain ⟨rv, t1, t2⟩ := TA'.rw
    have lr : rv.length = rows.length := by rw [t2.len, List.length_map]
    have hL := atI_last (((List.range (P.length - 1 - (rd P x).1)).filter (hasAt P x)).map fun k : Nat => V.int (k : Int)) (V.int ((P.length - 1 - (rd P x).1 : Nat) : Int))
    have gD : ∀ {H2 : Hp}, Fr c0 H' H2 → SqL K H2 D (((List.range (P.length - 1 - (rd P x).1)).filter (hasAt P x)).map (fun k : Nat => V.int (k : Int)) ++ [V.int ((P.length - 1 - (rd P x).1 : Nat) : Int)]) := fun f => SqL.of (f.at g1 (fun z => z))
    refine ⟨_, rfl, told, _, _, _, rfl, rfl, g2.sqT hTo, rfl, .inl ⟨rfl, _, SqL.of t1⟩, ?_⟩
    refine ⟨_, rfl, _, rfl, ap, _, rfl, .inl hA', _, _, rfl, rfl, _, rfl, _, rfl, D, _, _, _, rfl, rfl, gD (Fr.refl _), hL, _, _, rfl, rfl, ?_⟩
    refine ⟨_, rfl, _, rfl, _, rfl, D, _, _, _, rfl, rfl, gD (Fr.refl _), hL, ap, _, _, _, rfl, rfl, hA', e1, _, rfl, d, _, rfl, by have := DGet.k (k := Sum.inr x) e2'; rw [ev] at this; exact this, ?_⟩
    refine ⟨one_sz (by show 3 ≤ 1000; decide), fun t ht => ?_⟩
    have en : ((((ds.map V.ref).length : Nat) : Int) - 1) - ((P.length - 1 - (rd P x).1 : Nat) : Int) = ((rd P x).1 : Int) := by rw [lm]; omega
    simp only [en]
    have f1 : Fr c0 H' (upd H' t (.tup [.str x, .int ((rd P x).1 : Int), .int (rd P x).2])) := Fr.new ht
    have t1' := f1.at t1 (fun z => z)
    refine ⟨r1, rv, _, rfl, rfl, t1', Nat.lt_of_lt_of_le (m := 16000000) (by omega) (by rw [sizeLine_eq]; decide), ?_⟩
    have f2 : Fr (cT r1 r2) (upd H' t (.tup [.str x, .int ((rd P x).1 : Int), .int (rd P x).2])) (upd (upd H' t (.tup [.str x, .int ((rd P x).1 : Int), .int (rd P x).2])) r1 (.lst (rv ++ [.ref t]))) := Fr.set t1' ⟨.inl rfl, _, rfl⟩ trivial
    have T2 := (TA'.fr f1).row t1' upd_same
    have f3 := (Fr.of0 (C := cT r1 r2) f1).trans f2
    have nD : ∀ o, ¬ cT r1 r2 D o := fun o z => by
      rcases z.1 with z | z
      · obtain ⟨rv0, u1, _⟩ := TA.rw
        rw [z, u1] at hD; cases hD
      · rw [z, TA.sd] at hD; cases hD
    have nA : ∀ o, ¬ cT r1 r2 ap o := fun o z => by
      rcases z.1 with z | z
      · exact h1.2.1 z
      · exact h1.2.2 z
    refine ⟨_, rfl, _, rfl, _, rfl, D, _, _, _, rfl, rfl, SqL.of (f3.at g1 (nD _)), hL, ap, _, _, _, rfl, rfl, f3.sqL nA hA', e1, _, rfl, d, _, rfl, by have := DGet.k (k := Sum.inr x) (f3.at e2' cT_dK); rw [ev] at this; exact this, ?_⟩
    exact k _ ((Fr.of0 g2).trans f3) T2
end BN
namespace BN
open PySem L2 PyProof.Rows
/-! ### work of the law -/
def spLWork (K : PySem.W.Frag) (n : Nat) : Sp := fun vs H Q _ => ∃ (v : V) (ap af told r1 r2 : Addr) (near : Bool) (pt : Part) (P : List Room) (fe : List Fn) (ns : List Str) (rows : List Row) (said : List Int), vs = [v, .ref ap, .ref af, .ref told, .bl near] ∧
  SqT K H told [.ref r1, .ref r2] ∧ TAt K H r1 r2 rows said ∧ WAt (SL r1 r2) K H v ap af pt P fe ∧ WOk n pt P fe ns (rows.length + said.length) ∧
  ∀ H', Fr (cT r1 r2) H H' → TAt K H' r1 r2 (rows ++ (dn near pt fe P).rows) (said ++ (dn near pt fe P).said) → Q (.int (dn near pt fe P).v) H'
def spLCall (K : PySem.W.Frag) (n : Nat) : Sp := fun vs H Q _ => ∃ (v : V) (ap af told r1 r2 : Addr) (near : Bool) (f : Str) (as : Parts) (P : List Room) (fe : List Fn) (ns : List Str) (rows : List Row) (said : List Int), vs = [v, .ref ap, .ref af, .ref told, .bl near] ∧
  SqT K H told [.ref r1, .ref r2] ∧ TAt K H r1 r2 rows said ∧ WAt (SL r1 r2) K H v ap af (.call f as) P fe ∧ WOk (n + 1) (.call f as) P fe ns (rows.length + said.length) ∧
  ∀ H', Fr (cT r1 r2) H H' → TAt K H' r1 r2 (rows ++ (dn near (.call f as) fe P).rows) (said ++ (dn near (.call f as) fe P).said) → Q (.int (dn near (.call f as) fe P).v) H'
def t_lwork (K : PySem.W.Frag) (n : Nat) : TS :=
  (tSeq (tAsg (tOp (rIxT K) (tVar 0) (tC (.int 0))) (gName 5))
    (tSeq (tIfS (tTest (tOp rEq (tVar 5) (tC (.str "num")))) (tRet (tOp (rIxT K) (tVar 0) (tC (.int 1)))) tNext)
    (tSeq (tIfS (tTest (tOp rEq (tVar 5) (tC (.str "name")))) (tRet (tCall (spLRead K) [] C8.E0 (tCons (tOp (rIxT K) (tVar 0) (tC (.int 1))) (tCons (tVar 1) (tCons (tVar 3) tNil))))) tNext)
    (tSeq (tIfS (tTest (tOp rEq (tVar 5) (tC (.str "call")))) (tRet (tCall (spLCall K n) [] C8.E0 (tCons (tVar 0) (tCons (tVar 1) (tCons (tVar 2) (tCons (tVar 3) (tCons (tVar 4) tNil))))))) tNext)
    (tSeq (tIfS (tTest (tOp rEq (tVar 5) (tC (.str "fun")))) (tSeq (tAsg (tCB rDictD (tCons (tVar 2) tNil)) (gName 6))
    (tSeq (sDPut (tVar 6) (tOp (rIxT K) (tVar 0) (tC (.int 1))) (tTup (tCons (tOp (rIxT K) (tVar 0) (tC (.int 2))) (tCons (tOp (rIxT K) (tVar 0) (tC (.int 3))) (tCons (tVar 1) (tCons (tVar 2) tNil))))))
    (tRet (tCall (spLWork K n) [] C8.E0 (tCons (tOp (rIxT K) (tVar 0) (tC (.int 4))) (tCons (tVar 1) (tCons (tVar 6) (tCons (tVar 3) (tCons (tVar 4) tNil))))))))) tNext)
    (tSeq (tIfS (tTest (tOp rEq (tVar 5) (tC (.str "let")))) (tSeq (tAsg (tCall (spLWork K n) [] C8.E0 (tCons (tOp (rIxT K) (tVar 0) (tC (.int 2))) (tCons (tVar 1) (tCons (tVar 2) (tCons (tVar 3) (tCons (tVar 4) tNil)))))) (gName 7))
    (tRet (tCall (spLWork K n) [] C8.E0 (tCons (tOp (rIxT K) (tVar 0) (tC (.int 3))) (tCons (tOp rCat (tVar 1) (tLst (tCons (tDisp [((tOp (rIxT K) (tVar 0) (tC (.int 1))), (tVar 7))]) tNil))) (tCons (tVar 2) (tCons (tVar 3) (tCons (tVar 4) tNil)))))))) tNext)
    (tSeq (tAsg (tCall (spLWork K n) [] C8.E0 (tCons (tOp (rIxT K) (tVar 0) (tC (.int 1))) (tCons (tVar 1) (tCons (tVar 2) (tCons (tVar 3) (tCons (tVar 4) tNil)))))) (gName 7))
    (tSeq (tIfS (tTest (tOp rEq (tVar 5) (tC (.str "say")))) (tDrop (tBM K "list" rAppend (tOp (rIxT K) (tVar 3) (tC (.int 1))) (tCons (tVar 7) tNil))) tNext)
    (tSeq (tIfS (tTest (tOp rEq (tVar 5) (tC (.str "if")))) (tRet (tCall (spLWork K n) [] C8.E0 (tCons (tOp (rIxT K) (tVar 0) (tOp oAdd (tC (.int 2)) (tCB rInt1 (tCons (tOp rEq (tVar 7) (tC (.int 0))) tNil)))) (tCons (tVar 1) (tCons (tVar 2) (tCons (tVar 3) (tCons (tVar 4) tNil))))))) tNext)
    (tSeq (tIfS (tTest (tOp (rIn K false) (tVar 5) (tTup (tCons (tC (.str "add")) (tCons (tC (.str "less")) tNil))))) (tSeq (tAsg (tCall (spLWork K n) [] C8.E0 (tCons (tOp (rIxT K) (tVar 0) (tC (.int 2))) (tCons (tVar 1) (tCons (tVar 2) (tCons (tVar 3) (tCons (tVar 4) tNil)))))) (gName 8))
    (tRet (tOp (rIxL K) (tLst (tCons (tOp oMod (tOp oAdd (tVar 7) (tVar 8)) (tC (.int 100))) (tCons (tCB rInt1 (tCons (tOp oLt (tVar 7) (tVar 8)) tNil)) tNil))) (tCB rInt1 (tCons (tOp rEq (tVar 5) (tC (.str "less"))) tNil))))) tNext)
    (tRet (tVar 7))))))))))))
theorem pure_lwork {K : PySem.W.Frag} {n : Nat} (vs : List V) (H : Hp) (Q : VK) (E : XK) (h : spLWork K (n + 1) vs H Q E) : t_lwork K n { nx := fun _ H' => Q .non H', rt := Q } (start ["part", "pile", "funs", "told", "near", "word", "known", "first", "other"] vs) H := by
  obtain ⟨v, ap, af, told, r1, r2, near, pt, P, fe, ns, rows, said, rfl, hTo, TA, W, O, k⟩ := h
  have hS : PStay (SL r1 r2) (cT r1 r2) := stayL
  have hS0 : PStay (SL r1 r2) c0 := stayL0
  have hC : ∀ c kvs, ¬ cT r1 r2 c (.dK kvs) := fun _ _ => cT_dK
  have hC0 : ∀ c kvs, ¬ c0 c (.dK kvs) := fun _ _ z => z
  have nl : ∀ {a : Addr}, H a = none → a ≠ r1 ∧ a ≠ r2 := fun {a} h => by
    obtain ⟨rv, h1, _⟩ := TA.rw
    exact ⟨fun z => (by rw [z, h1] at h; cases h), fun z => (by rw [z, TA.sd] at h; cases h)⟩
  obtain ⟨t, xs, rfl, hT, hx⟩ := inv_head W.v
  refine ⟨_, rfl, t, _, _, _, rfl, rfl, hT, atI_nat (j := 0) rfl, ?_⟩
  have o1 := O.dp; have o2 := O.pl; have o3 := O.fl; have o4 := O.wid; have o5 := O.cst
  cases pt with
  | num m =>
    obtain ⟨t', e, hT3⟩ := inv_num W.v
    cases e
    refine ⟨_, rfl, rfl, _, rfl, ifT (by kernel_rfl) ?_⟩
    exact ⟨_, rfl, t, _, _, _, rfl, rfl, hT3, rfl, k H (Fr.refl _) (by simpa [dn, den] using TA)⟩
  | name x =>
    obtain ⟨t', e, hT3⟩ := inv_name W.v
    cases e
    have hok := O.ok
    simp only [Part.ok] at hok
    simp only [Part.cst] at o5
    refine ⟨_, rfl, rfl, _, rfl, ifF (by kernel_rfl) ?_⟩
    refine ⟨_, rfl, rfl, _, rfl, ifT (by kernel_rfl) ?_⟩
    refine ⟨_, rfl, t, _, _, _, rfl, rfl, hT3, rfl, _, rfl, _, rfl, x, ap, told, r1, r2, P, rows, said, rfl, hTo, TA, W.p, O.dom x hok, by omega, by omega, fun H' f t => ?_⟩
    exact k H' f (by simpa [dn, den] using t)
  | call f as =>
    refine ⟨_, rfl, rfl, _, rfl, ifF (by kernel_rfl) ?_⟩
    refine ⟨_, rfl, rfl, _, rfl, ifF (by kernel_rfl) ?_⟩
    refine ⟨_, rfl, rfl, _, rfl, ifT (by kernel_rfl) ?_⟩
    exact ⟨_, rfl, _, rfl, _, rfl, _, rfl, _, rfl, .ref t, ap, af, told, r1, r2, near, f, as, P, fe, ns, rows, said, rfl, hTo, TA, W, O, k⟩
  | fn f ps b r =>
    obtain ⟨t', tp, vb, vr, e, hT3, hTp, db, dr⟩ := inv_fn W.v
    cases e
    have hok := O.ok
    simp only [Part.ok] at hok
    simp only [Part.dpt] at o1 o2 o3
    simp only [Part.wid] at o4
    simp only [Part.cst] at o5
    refine ⟨_, rfl, rfl, _, rfl, ifF (by kernel_rfl) ?_⟩
    refine ⟨_, rfl, rfl, _, rfl, ifF (by kernel_rfl) ?_⟩
    refine ⟨_, rfl, rfl, _, rfl, ifF (by kernel_rfl) ?_⟩
    refine ⟨_, rfl, rfl, _, rfl, ifT (by kernel_rfl) ?_⟩
    obtain ⟨kvs, hk, hkl⟩ := W.f.dict
    refine ⟨_, rfl, af, kvs, rfl, .inl hk, fun kn hkn => ?_⟩
    have f1 : Fr c0 H (upd H kn (.dK kvs)) := Fr.new hkn
    have hT4 := f1.sqT hT3
    refine ⟨_, rfl, t, _, _, _, rfl, rfl, hT4, rfl, _, rfl, t, _, _, _, rfl, rfl, hT4, rfl, _, rfl, _, rfl, one_sz (by show 4 ≤ 1000; decide), fun tt htt => ?_⟩
    have f2 : Fr c0 (upd H kn (.dK kvs)) (upd (upd H kn (.dK kvs)) tt (.tup [.ref tp, vb, .ref ap, .ref af])) := Fr.new htt
    have nkt : kn ≠ tt := ne_of_none upd_same htt
    refine ⟨_, rfl, _, rfl, t, _, _, _, rfl, rfl, f2.sqT hT4, rfl, kn, _, rfl, DPut.k (k := Sum.inr f) (by rw [upd_ne nkt, upd_same]) (Nat.lt_of_lt_of_le (m := 2000) (by omega) (by rw [sizeLine_eq]; decide)), ?_⟩
    have f3 : Fr c0 H (upd (upd (upd H kn (.dK kvs)) tt (.tup [.ref tp, vb, .ref ap, .ref af])) kn (.dK (putK kvs (Sum.inr f) (.ref tt)))) := (f1.trans f2).fresh hkn
    have htt3 : (upd (upd (upd H kn (.dK kvs)) tt (.tup [.ref tp, vb, .ref ap, .ref af])) kn (.dK (putK kvs (Sum.inr f) (.ref tt)))) tt = some (.tup [.ref tp, vb, .ref ap, .ref af]) := by rw [upd_ne nkt.symm, upd_same]
    have hkn3 : (upd (upd (upd H kn (.dK kvs)) tt (.tup [.ref tp, vb, .ref ap, .ref af])) kn (.dK (putK kvs (Sum.inr f) (.ref tt)))) kn = some (.dK (putK kvs (Sum.inr f) (.ref tt))) := upd_same
    generalize (upd (upd (upd H kn (.dK kvs)) tt (.tup [.ref tp, vb, .ref ap, .ref af])) kn (.dK (putK kvs (Sum.inr f) (.ref tt)))) = H3 at f3 htt3 hkn3 ⊢
    have W3 := W.fr hS0 hC0 f3
    refine ⟨_, rfl, t, _, _, _, rfl, rfl, f3.sqT hT3, rfl, _, rfl, _, rfl, _, rfl, _, rfl, vr, ap, kn, told, r1, r2, near, r, P, ⟨f, ps, b, P, ns⟩ :: fe, ns, rows, said, rfl, f3.sqT hTo, TA.fr f3, ⟨Dp.fr f3 _ _ (tup_enc r) dr, W3.p,
      ⟨af, tt, tp, ap, vb, kvs, W3.f, f3.at hk (fun z => z), hkn3, SqT.of htt3, f3.sqT hTp, Dp.fr f3 _ _ (tup_enc b) db, W3.p⟩⟩,
      ⟨hok.2.2.2.2.2, O.dom, O.nw, ⟨O.env, O.env, O.dom, O.dom, hok.2.2.2.2.1, hok.2.2.1, hok.2.1, by show P.length + 1 + b.dpt (dlt fe) ≤ 1000; omega, by show fe.length + b.dpt (dlt fe) ≤ 1000; omega, by show b.wid ≤ 1000; omega, O.ne, fun x hx => ?_⟩, by simp only [dlt]; omega, by simp only [dlt]; omega, by simp only [dlt, List.length_cons]; omega, by omega, by simp only [cnt]; omega, O.ne⟩, fun H' f' t => ?_⟩
    · rcases List.mem_append.mp hx with z | z
      · exact O.nw x z
      · exact hok.2.2.2.1 x z
    · exact k H' ((Fr.of0 f3).trans f') t
  | lt x a b =>
    obtain ⟨t', va, vb, e, hT3, da, db⟩ := inv_lt W.v
    cases e
    have hok := O.ok
    simp only [Part.ok] at hok
    simp only [Part.dpt] at o1 o2 o3
    simp only [Part.wid] at o4
    simp only [Part.cst] at o5
    simp only [dn, den, Out.bnd] at k
    refine ⟨_, rfl, rfl, _, rfl, ifF (by kernel_rfl) ?_⟩
    refine ⟨_, rfl, rfl, _, rfl, ifF (by kernel_rfl) ?_⟩
    refine ⟨_, rfl, rfl, _, rfl, ifF (by kernel_rfl) ?_⟩
    refine ⟨_, rfl, rfl, _, rfl, ifF (by kernel_rfl) ?_⟩
    refine ⟨_, rfl, rfl, _, rfl, ifT (by kernel_rfl) ?_⟩
    have l1 := dn_len near a fe P
    refine ⟨_, rfl, t, _, _, _, rfl, rfl, hT3, rfl, _, rfl, _, rfl, _, rfl, _, rfl, ?_⟩
    refine ⟨va, ap, af, told, r1, r2, near, a, P, fe, ns, rows, said, rfl, hTo, TA, ⟨da, W.p, W.f⟩, ⟨hok.2.1, O.dom, O.nw, O.env, by omega, by omega, by omega, by omega, by omega, O.ne⟩, fun H1 f1 TA1 => ?_⟩
    have W1 := W.fr hS hC f1
    refine ⟨_, rfl, t, _, _, _, rfl, rfl, f1.sqT hT3, rfl, _, rfl, fun d hd => ?_⟩
    have f2 : Fr c0 H1 (upd H1 d (.dK [])) := Fr.new hd
    refine ⟨_, rfl, t, _, _, _, rfl, rfl, (f1.trans (Fr.of0 f2)).sqT hT3, rfl, _, rfl, upd_same, [(Sum.inr x, .int (dn near a fe P).v)], rfl, (by show 1 ≤ 15; decide), ?_⟩
    have f3 : Fr c0 H1 (upd (upd H1 d (.dK [])) d (.dK (mergeK [] [(Sum.inr x, .int (dn near a fe P).v)]))) := f2.fresh hd
    have hd3 : (upd (upd H1 d (.dK [])) d (.dK (mergeK [] [(Sum.inr x, .int (dn near a fe P).v)]))) d = some (.dK (roomK [(x, (dn near a fe P).v)])) := by rw [upd_same]; rfl
    generalize (upd (upd H1 d (.dK [])) d (.dK (mergeK [] [(Sum.inr x, .int (dn near a fe P).v)]))) = H3 at f3 hd3 ⊢
    obtain ⟨ds, q1, q2, q3⟩ := (W1.p.fr hS0 hC0 f3).ex
    refine ⟨one_sz (by show 1 ≤ 1000; decide), fun t2 ht2 => ?_⟩
    have f4 : Fr c0 H3 (upd H3 t2 (.lst [.ref d])) := Fr.new ht2
    refine ⟨ap, t2, _, [.ref d], rfl, rfl, f4.at q1.1 (fun z => z), upd_same, one_sz (by rw [List.length_map, q2]; show P.length + 1 ≤ 1000; omega), fun t3 ht3 => ?_⟩
    have f5 : Fr c0 (upd H3 t2 (.lst [.ref d])) (upd (upd H3 t2 (.lst [.ref d])) t3 (.lst (ds.map V.ref ++ [.ref d]))) := Fr.new ht3
    have f35 := f4.trans f5
    have f15 := f3.trans f35
    have f05 := f1.trans (Fr.of0 f15)
    have W5 := W1.fr hS0 hC0 f15
    have nt3 := nl (f1.free _ ((f3.trans f4).free _ ht3))
    have wx : ∀ y ∈ ns ++ [x], wordB y = true := fun y hy => by
      rcases List.mem_append.mp hy with z | z
      · exact O.nw y z
      · rw [List.mem_singleton.mp z]; exact hok.1
    have dx' : ∀ y ∈ ns ++ [x], hasR (P ++ [[(x, (dn near a fe P).v)]]) y := fun y hy => by
      rcases List.mem_append.mp hy with z | z
      · exact (O.dom y z).app _
      · rw [List.mem_singleton.mp z]; exact hasR.one _ _ _
    refine ⟨_, rfl, _, rfl, _, rfl, ?_⟩
    refine ⟨vb, t3, af, told, r1, r2, near, b, P ++ [[(x, (dn near a fe P).v)]], fe, ns ++ [x], rows ++ (dn near a fe P).rows, said ++ (dn near a fe P).said, rfl, f05.sqT hTo, TA1.fr f15, ⟨Dp.fr f05 _ _ (tup_enc b) db,
      PileAt.snoc (S := SL r1 r2) (S2 := SL r1 r2) (H := H) q2 (fun k d r e1 e2 => f35.at (q3 k d r e1 e2) (fun z => z)) (f35.at hd3 (fun z => z)) ⟨upd_same, nt3⟩, W5.f⟩,
      ⟨hok.2.2, dx', wx, O.env.mono fun y hy => hy.app _, by omega, by rw [List.length_append]; show P.length + 1 + _ ≤ _; omega, by omega, by omega, by rw [List.length_append, List.length_append]; omega, by simp⟩, fun H6 f6 TA6 => ?_⟩
    exact k H6 (f05.trans f6) (by simpa only [dn, List.append_assoc] using TA6)
  | say a =>
    obtain ⟨t', va, e, hT3, da⟩ := inv_say W.v
    cases e
    have hok := O.ok
    simp only [Part.ok] at hok
    simp only [Part.dpt] at o1 o2 o3
    simp only [Part.wid] at o4
    simp only [Part.cst] at o5
    simp only [dn, den, Out.bnd] at k
    refine ⟨_, rfl, rfl, _, rfl, ifF (by kernel_rfl) ?_⟩
    refine ⟨_, rfl, rfl, _, rfl, ifF (by kernel_rfl) ?_⟩
    refine ⟨_, rfl, rfl, _, rfl, ifF (by kernel_rfl) ?_⟩
    refine ⟨_, rfl, rfl, _, rfl, ifF (by kernel_rfl) ?_⟩
    refine ⟨_, rfl, rfl, _, rfl, ifF (by kernel_rfl) ?_⟩
    have l1 := dn_len near a fe P
    refine ⟨_, rfl, t, _, _, _, rfl, rfl, hT3, rfl, _, rfl, _, rfl, _, rfl, _, rfl, ?_⟩
    refine ⟨va, ap, af, told, r1, r2, near, a, P, fe, ns, rows, said, rfl, hTo, TA, ⟨da, W.p, W.f⟩, ⟨hok, O.dom, O.nw, O.env, by omega, by omega, by omega, by omega, by omega, O.ne⟩, fun H1 f1 TA1 => ?_⟩
    refine ⟨_, rfl, rfl, _, rfl, ifT (by kernel_rfl) ?_⟩
    refine ⟨_, rfl, told, _, _, _, rfl, rfl, f1.sqT hTo, rfl, .inl ⟨rfl, _, SqL.of TA1.sd⟩, _, rfl, r2, _, _, rfl, rfl, TA1.sd, Nat.lt_of_lt_of_le (m := 16000000) (by rw [List.length_map, List.length_append]; omega) (by rw [sizeLine_eq]; decide), ?_⟩
    refine ⟨_, rfl, rfl, _, rfl, ifF (by kernel_rfl) ?_⟩
    refine ⟨_, rfl, one_sz (by show 2 ≤ 1000; decide), fun t4 ht4 => ⟨t4, _, rfl, .inr (SqT.of upd_same), rfl, rfl, _, rfl, ifF (by kernel_rfl) ?_⟩⟩
    refine ⟨_, rfl, ?_⟩
    refine k _ ((f1.trans (Fr.set TA1.sd ⟨.inr rfl, _, rfl⟩ trivial)).trans (Fr.new ht4)) ?_
    simpa only [dn, List.append_assoc, List.append_nil] using (TA1.say (dn near a fe P).v).fr (Fr.new ht4)
  | ite c a b =>
    obtain ⟨t', vc, va, vb, e, hT3, dc, da, db⟩ := inv_ite W.v
    cases e
    have hok := O.ok
    simp only [Part.ok] at hok
    simp only [Part.dpt] at o1 o2 o3
    simp only [Part.wid] at o4
    simp only [Part.cst] at o5
    simp only [dn, den, Out.bnd] at k
    refine ⟨_, rfl, rfl, _, rfl, ifF (by kernel_rfl) ?_⟩
    refine ⟨_, rfl, rfl, _, rfl, ifF (by kernel_rfl) ?_⟩
    refine ⟨_, rfl, rfl, _, rfl, ifF (by kernel_rfl) ?_⟩
    refine ⟨_, rfl, rfl, _, rfl, ifF (by kernel_rfl) ?_⟩
    refine ⟨_, rfl, rfl, _, rfl, ifF (by kernel_rfl) ?_⟩
    have l1 := dn_len near c fe P
    refine ⟨_, rfl, t, _, _, _, rfl, rfl, hT3, rfl, _, rfl, _, rfl, _, rfl, _, rfl, ?_⟩
    refine ⟨vc, ap, af, told, r1, r2, near, c, P, fe, ns, rows, said, rfl, hTo, TA, ⟨dc, W.p, W.f⟩, ⟨hok.1, O.dom, O.nw, O.env, by omega, by omega, by omega, by omega, by omega, O.ne⟩, fun H1 f1 TA1 => ?_⟩
    have W1 := W.fr hS hC f1
    refine ⟨_, rfl, rfl, _, rfl, ifF (by kernel_rfl) ?_⟩
    refine ⟨_, rfl, rfl, _, rfl, ifT (by kernel_rfl) ?_⟩
    by_cases hz : (dn near c fe P).v = 0
    · have ez : decide (V.int (dn near c fe P).v = V.int 0) = true := by rw [hz]; decide +kernel
      rw [if_pos hz] at k
      refine ⟨_, rfl, _, rfl, rfl, .inr ⟨_, rfl, _, _, rfl, rfl, t, _, _, vb, rfl, rfl, f1.sqT hT3, ?_, _, rfl, _, rfl, _, rfl, _, rfl, ?_⟩⟩
      · rw [ez]; rfl
      refine ⟨vb, ap, af, told, r1, r2, near, b, P, fe, ns, rows ++ (dn near c fe P).rows, said ++ (dn near c fe P).said, rfl, f1.sqT hTo, TA1, ⟨Dp.fr f1 _ _ (tup_enc b) db, W1.p, W1.f⟩, ⟨hok.2.2, O.dom, O.nw, O.env, by omega, by omega, by omega, by omega, by rw [List.length_append, List.length_append]; omega, O.ne⟩, fun H2 f2 TA2 => ?_⟩
      exact k H2 (f1.trans f2) (by simpa only [dn, List.append_assoc] using TA2)
    · have ez : decide (V.int (dn near c fe P).v = V.int 0) = false := decide_eq_false fun z => hz (V.int.inj z)
      rw [if_neg hz] at k
      refine ⟨_, rfl, _, rfl, rfl, .inr ⟨_, rfl, _, _, rfl, rfl, t, _, _, va, rfl, rfl, f1.sqT hT3, ?_, _, rfl, _, rfl, _, rfl, _, rfl, ?_⟩⟩
      · rw [ez]; rfl
      refine ⟨va, ap, af, told, r1, r2, near, a, P, fe, ns, rows ++ (dn near c fe P).rows, said ++ (dn near c fe P).said, rfl, f1.sqT hTo, TA1, ⟨Dp.fr f1 _ _ (tup_enc a) da, W1.p, W1.f⟩, ⟨hok.2.1, O.dom, O.nw, O.env, by omega, by omega, by omega, by omega, by rw [List.length_append, List.length_append]; omega, O.ne⟩, fun H2 f2 TA2 => ?_⟩
      exact k H2 (f1.trans f2) (by simpa only [dn, List.append_assoc] using TA2)
  | add a b =>
    obtain ⟨t', va, vb, e, hT3, da, db⟩ := inv_add W.v
    cases e
    have hok := O.ok
    simp only [Part.ok] at hok
    simp only [Part.dpt] at o1 o2 o3
    simp only [Part.wid] at o4
    simp only [Part.cst] at o5
    simp only [dn, den, Out.bnd] at k
    refine ⟨_, rfl, rfl, _, rfl, ifF (by kernel_rfl) ?_⟩
    refine ⟨_, rfl, rfl, _, rfl, ifF (by kernel_rfl) ?_⟩
    refine ⟨_, rfl, rfl, _, rfl, ifF (by kernel_rfl) ?_⟩
    refine ⟨_, rfl, rfl, _, rfl, ifF (by kernel_rfl) ?_⟩
    refine ⟨_, rfl, rfl, _, rfl, ifF (by kernel_rfl) ?_⟩
    have l1 := dn_len near a fe P
    refine ⟨_, rfl, t, _, _, _, rfl, rfl, hT3, rfl, _, rfl, _, rfl, _, rfl, _, rfl, ?_⟩
    refine ⟨va, ap, af, told, r1, r2, near, a, P, fe, ns, rows, said, rfl, hTo, TA, ⟨da, W.p, W.f⟩, ⟨hok.1, O.dom, O.nw, O.env, by omega, by omega, by omega, by omega, by omega, O.ne⟩, fun H1 f1 TA1 => ?_⟩
    have W1 := W.fr hS hC f1
    refine ⟨_, rfl, rfl, _, rfl, ifF (by kernel_rfl) ?_⟩
    refine ⟨_, rfl, rfl, _, rfl, ifF (by kernel_rfl) ?_⟩
    refine ⟨_, rfl, one_sz (by show 2 ≤ 1000; decide), fun t4 ht4 => ⟨t4, _, rfl, .inr (SqT.of upd_same), rfl, rfl, _, rfl, ifT (by kernel_rfl) ?_⟩⟩
    have f2 : Fr c0 H1 (upd H1 t4 (.tup [.str "add", .str "less"])) := Fr.new ht4
    have W2 := W1.fr hS0 hC0 f2
    have f12 := f1.trans (Fr.of0 (C := cT r1 r2) f2)
    refine ⟨_, rfl, t, _, _, _, rfl, rfl, f12.sqT hT3, rfl, _, rfl, _, rfl, _, rfl, _, rfl, ?_⟩
    refine ⟨vb, ap, af, told, r1, r2, near, b, P, fe, ns, rows ++ (dn near a fe P).rows, said ++ (dn near a fe P).said, rfl, f12.sqT hTo, (TA1.fr f2), ⟨Dp.fr f12 _ _ (tup_enc b) db, W2.p, W2.f⟩, ⟨hok.2, O.dom, O.nw, O.env, by omega, by omega, by omega, by omega, by rw [List.length_append, List.length_append]; omega, O.ne⟩, fun H3 f3 TA3 => ?_⟩
    refine ⟨_, rfl, _, rfl, _, _, rfl, rfl, _, _, rfl, rfl, (by show (0 : Int) < 100; decide), _, rfl, _, rfl, _, _, rfl, rfl, .inr ⟨_, rfl, one_sz (by show 2 ≤ 1000; decide), fun l hl => ⟨_, rfl, rfl, .inr ⟨_, rfl, l, _, _, .int (((dn near a fe P).v + (dn near b fe P).v) % 100), rfl, rfl, SqL.of upd_same, ?_, ?_⟩⟩⟩⟩
    · rw [show decide (V.str (Part.add a b).word = V.str "less") = false from by kernel_rfl]; rfl
    · exact k _ ((f12.trans f3).trans (Fr.new hl)) (by simpa only [dn, List.append_assoc, List.append_nil] using TA3.fr (Fr.new hl))
  | less a b =>
    obtain ⟨t', va, vb, e, hT3, da, db⟩ := inv_less W.v
    cases e
    have hok := O.ok
    simp only [Part.ok] at hok
    simp only [Part.dpt] at o1 o2 o3
    simp only [Part.wid] at o4
    simp only [Part.cst] at o5
    simp only [dn, den, Out.bnd] at k
    refine ⟨_, rfl, rfl, _, rfl, ifF (by kernel_rfl) ?_⟩
    refine ⟨_, rfl, rfl, _, rfl, ifF (by kernel_rfl) ?_⟩
    refine ⟨_, rfl, rfl, _, rfl, ifF (by kernel_rfl) ?_⟩
    refine ⟨_, rfl, rfl, _, rfl, ifF (by kernel_rfl) ?_⟩
    refine ⟨_, rfl, rfl, _, rfl, ifF (by kernel_rfl) ?_⟩
    have l1 := dn_len near a fe P
    refine ⟨_, rfl, t, _, _, _, rfl, rfl, hT3, rfl, _, rfl, _, rfl, _, rfl, _, rfl, ?_⟩
    refine ⟨va, ap, af, told, r1, r2, near, a, P, fe, ns, rows, said, rfl, hTo, TA, ⟨da, W.p, W.f⟩, ⟨hok.1, O.dom, O.nw, O.env, by omega, by omega, by omega, by omega, by omega, O.ne⟩, fun H1 f1 TA1 => ?_⟩
    have W1 := W.fr hS hC f1
    refine ⟨_, rfl, rfl, _, rfl, ifF (by kernel_rfl) ?_⟩
    refine ⟨_, rfl, rfl, _, rfl, ifF (by kernel_rfl) ?_⟩
    refine ⟨_, rfl, one_sz (by show 2 ≤ 1000; decide), fun t4 ht4 => ⟨t4, _, rfl, .inr (SqT.of upd_same), rfl, rfl, _, rfl, ifT (by kernel_rfl) ?_⟩⟩
    have f2 : Fr c0 H1 (upd H1 t4 (.tup [.str "add", .str "less"])) := Fr.new ht4
    have W2 := W1.fr hS0 hC0 f2
    have f12 := f1.trans (Fr.of0 (C := cT r1 r2) f2)
    refine ⟨_, rfl, t, _, _, _, rfl, rfl, f12.sqT hT3, rfl, _, rfl, _, rfl, _, rfl, _, rfl, ?_⟩
    refine ⟨vb, ap, af, told, r1, r2, near, b, P, fe, ns, rows ++ (dn near a fe P).rows, said ++ (dn near a fe P).said, rfl, f12.sqT hTo, (TA1.fr f2), ⟨Dp.fr f12 _ _ (tup_enc b) db, W2.p, W2.f⟩, ⟨hok.2, O.dom, O.nw, O.env, by omega, by omega, by omega, by omega, by rw [List.length_append, List.length_append]; omega, O.ne⟩, fun H3 f3 TA3 => ?_⟩
    refine ⟨_, rfl, _, rfl, _, _, rfl, rfl, _, _, rfl, rfl, (by show (0 : Int) < 100; decide), _, rfl, _, rfl, _, _, rfl, rfl, .inr ⟨_, rfl, one_sz (by show 2 ≤ 1000; decide), fun l hl => ⟨_, rfl, rfl, .inr ⟨_, rfl, l, _, _, .int (if decide ((dn near a fe P).v < (dn near b fe P).v) = true then 1 else 0), rfl, rfl, SqL.of upd_same, ?_, ?_⟩⟩⟩⟩
    · rw [show decide (V.str (Part.less a b).word = V.str "less") = true from by kernel_rfl]; rfl
    · have ei : (if decide ((dn near a fe P).v < (dn near b fe P).v) = true then (1 : Int) else 0) = if (dn near a fe P).v < (dn near b fe P).v then 1 else 0 := by simp only [decide_eq_true_eq]
      rw [ei]
      exact k _ ((f12.trans f3).trans (Fr.new hl)) (by simpa only [dn, List.append_assoc, List.append_nil] using TA3.fr (Fr.new hl))
end BN
namespace BN
open PySem L2 PyProof.Rows
/-! ### a call of the law's -/
def t_lcall (K : PySem.W.Frag) (n : Nat) : TS :=
  (tSeq (tAsg (tLc (iTup K (tOp (rIxT K) (tVar 0) (tC (.int 2)))) (gName 10) tYes (tCall (spLWork K n) [] C8.E0 (tCons (tVar 10) (tCons (tVar 1) (tCons (tVar 2) (tCons (tVar 3) (tCons (tVar 4) tNil)))))) [10]) (gName 5))
    (tSeq (tAsg (tDGet (tVar 2) (tOp (rIxT K) (tVar 0) (tC (.int 1)))) (gTup K 4 (gCons (gName 6) (gCons (gName 7) (gCons (gName 8) (gCons (gName 9) gNil))))))
    (tRet (tCall (spLWork K n) [] C8.E0 (tCons (tVar 7) (tCons (tOp rCat (tOp (rIxL K) (tLst (tCons (tVar 1) (tCons (tVar 8) tNil))) (tCB rInt1 (tCons (tVar 4) tNil))) (tLst (tCons (tCall (spLRoom K) [] C8.E0 (tCons (tVar 6) (tCons (tVar 5) tNil))) tNil))) (tCons (tVar 9) (tCons (tVar 3) (tCons (tVar 4) tNil)))))))))
theorem pure_lcall {K : PySem.W.Frag} {n : Nat} (vs : List V) (H : Hp) (Q : VK) (E : XK) (h : spLCall K (n + 1) vs H Q E) :
    t_lcall K n { nx := fun _ H' => Q .non H', rt := Q } (start ["part", "pile", "funs", "told", "near", "numbers", "params", "body", "home", "known", "one"] vs) H := by
  obtain ⟨v, ap, af, told, r1, r2, near, f, as, P, fe, ns, rows, said, rfl, hTo, TA, W, O, k⟩ := h
  obtain ⟨t, ta, ws, rfl, hT, hA, da⟩ := inv_call W.v
  have hS : PStay (SL r1 r2) (cT r1 r2) := stayL
  have hS0 : PStay (SL r1 r2) c0 := stayL0
  have hC : ∀ c kvs, ¬ cT r1 r2 c (.dK kvs) := fun _ _ => cT_dK
  have hC0 : ∀ c kvs, ¬ c0 c (.dK kvs) := fun _ _ z => z
  have nl : ∀ {a : Addr}, H a = none → a ≠ r1 ∧ a ≠ r2 := fun {a} h => by
    obtain ⟨rv, h1, _⟩ := TA.rw
    exact ⟨fun z => (by rw [z, h1] at h; cases h), fun z => (by rw [z, TA.sd] at h; cases h)⟩
  have o1 := O.dp; have o2 := O.pl; have o3 := O.fl; have o4 := O.wid; have o5 := O.cst
  have hok := O.ok
  simp only [Part.ok] at hok
  simp only [Part.dpt] at o1 o2 o3
  simp only [Part.wid] at o4
  simp only [Part.cst] at o5
  have hb := sem_bnd near fe
  obtain ⟨os, hos⟩ : ∃ os, os = dens near as (sem near fe) P := ⟨_, rfl⟩
  have los : os = as.list.map fun q => dn near q fe P := by rw [hos, dens_list]
  have lw : ws.length = as.list.length := by rw [da.len, List.length_map]
  have lo : os.length = as.list.length := by rw [los, List.length_map]
  have la := Parts.list_len as
  refine ⟨_, rfl, t, _, _, _, rfl, rfl, hT, rfl, ta, rfl, ⟨_, hA⟩, ?_⟩
  refine lcJ_tup (K := K) (a := ta) (xs := ws) (C := cT r1 r2) (I := fun i H' => TAt K H' r1 r2 (rows ++ (os.take i).flatMap (·.rows)) (said ++ (os.take i).flatMap (·.said))) (Good := fun i d => ∃ q, as.list[i]? = some q ∧ d = .int (dn near q fe P).v)
    hA (fun i H' D ys hD fD g2 => g2.new (nl hD).1 (nl hD).2 fD) (fun D o hD z => ?_) (by simpa using TA) (by omega) (fun i x hi H' f' TA' Q' hQ => ?_) fun D vs ds H2 hD e2 da2 dl dg f2 TA2 => ?_
  · rcases z.1 with z | z
    · exact (nl hD).1 z
    · exact (nl hD).2 z
  · obtain ⟨dd, hdd, Dx⟩ := da.getV hi
    obtain ⟨q, hq, rfl⟩ := map_at hdd
    have hm := List.mem_of_getElem? hq
    have W' := W.fr hS hC f'
    have c1 := dens_take near hb (P := P) hq
    rw [← hos] at c1
    have d1 := dpt_list (d := dlt fe) hm
    have w1 := wid_list as q hm
    refine ⟨_, rfl, _, rfl, _, rfl, _, rfl, _, rfl, x, ap, af, told, r1, r2, near, q, P, fe, ns, _, _, rfl, f'.sqT hTo, TA', ⟨Dp.fr f' _ _ (tup_enc q) Dx, W'.p, W'.f⟩, ⟨parts_in hok.2 q hm, O.dom, O.nw, O.env, by omega, by omega, by omega, by omega, by rw [List.length_append, List.length_append]; omega, O.ne⟩, fun H3 f3 T3 => ?_⟩
    refine hQ (.int (dn near q fe P).v) _ _ ⟨q, hq, rfl⟩ rfl (.int _) f3 ?_
    have hoi : os[i]? = some (dn near q fe P) := by rw [los, List.getElem?_map, hq]; rfl
    show TAt K H3 r1 r2 (rows ++ (os.take (i + 1)).flatMap (·.rows)) (said ++ (os.take (i + 1)).flatMap (·.said))
    rw [take_more hoi]
    simpa only [List.flatMap_append, List.flatMap_cons, List.flatMap_nil, List.append_nil, List.append_assoc] using T3
  · have hds : ds = (os.map (·.v)).map PyData.int := by
      rw [los, List.map_map, List.map_map]
      exact eq_map_of_at (by rw [dl, lw]) fun k d hk => (dg k d hk).1
    rw [hds] at da2
    have hvs := da2.ints_inv
    subst hvs
    rw [lw, ← lo, List.take_length] at TA2
    have W2 := W.fr hS hC f2
    obtain ⟨e, tl, l, rfl, ef, hl, hpl, hE, hdl, hcn, hsm⟩ := env_at near hok.1 O.env
    obtain ⟨kvs, kn, tt, tp, ph, vb, g1, g2, g3, g4, g5, g6, g7⟩ := FunsAt.get W2.f fun x hx => by rw [ef]; exact hl x hx
    rw [ef] at g2
    have lvs : (os.map (·.v)).length = as.len := by rw [List.length_map, lo, la]
    obtain ⟨E1, E2, E3, E4, E5, E6, E7, E8, E9, E10, E11, E12⟩ := id hE
    have cd := dens_len near as (sem near (l ++ e :: tl)) P _ hb
    rw [← hos] at cd
    refine ⟨_, rfl, _, rfl, t, _, _, _, rfl, rfl, f2.sqT hT, rfl, af, _, rfl, by have := DGet.k (k := Sum.inr f) g1; rw [g2] at this; exact this, tt, _, rfl, g4, rfl, _, _, rfl, _, _, rfl, _, _, rfl, _, _, rfl, rfl, ?_⟩
    obtain ⟨pb, PB, hPB, hsel⟩ : ∃ (pb : Addr) (PB : List Room), (PB = (if near = true then e.home else P) ∧ PileAt (SL r1 r2) H2 pb PB ∧ PB ≠ [] ∧ EOk tl PB ∧ (∀ x ∈ e.ns, hasR PB x) ∧ PB.length + 1 + e.b.dpt (dlt tl) ≤ 1000) ∧
        ∀ R : VK, (∀ H', Fr c0 H2 H' → R (.ref pb) H') → tOp (rIxL K) (tLst (tCons (tVar 1) (tCons (tVar 8) tNil))) (tCB rInt1 (tCons (tVar 4) tNil)) [some (.ref t), some (.ref ap), some (.ref af), some (.ref told), some (.bl near), some (.ref D), some (.ref tp), some vb, some (.ref ph), some (.ref kn), none] H2 R := by
      cases near with
      | true => exact ⟨ph, e.home, ⟨rfl, g7, E11, E2, E4, by omega⟩, fun R hR => ⟨_, rfl, _, rfl, one_sz (by show 2 ≤ 1000; decide), fun l hl => ⟨_, rfl, .inr ⟨_, rfl, l, _, _, _, rfl, rfl, SqL.of upd_same, rfl, hR _ (Fr.new hl)⟩⟩⟩⟩
      | false => exact ⟨ap, P, ⟨rfl, W2.p, O.ne, E1, E3, by omega⟩, fun R hR => ⟨_, rfl, _, rfl, one_sz (by show 2 ≤ 1000; decide), fun l hl => ⟨_, rfl, .inr ⟨_, rfl, l, _, _, _, rfl, rfl, SqL.of upd_same, rfl, hR _ (Fr.new hl)⟩⟩⟩⟩
    obtain ⟨ePB, PB4, nePB, ePB2, dPB, lPB⟩ := hPB
    refine ⟨_, rfl, hsel _ fun H3 f3 => ?_⟩
    have D3 := f3.at e2 (fun z => z)
    refine ⟨_, rfl, _, rfl, tp, D, e.ps, os.map (·.v), rfl, f3.sqT g5, .inl (SqL.of D3), by omega, E6, by omega, fun q H4 f4 hq0 hq4 => ⟨one_sz (by show 1 ≤ 1000; decide), fun t2 ht2 => ?_⟩⟩
    have f24 := f3.trans f4
    obtain ⟨dsp, q1, q2, q3⟩ := (PB4.fr hS0 hC0 f24).ex
    have f5 : Fr c0 H4 (upd H4 t2 (.lst [.ref q])) := Fr.new ht2
    refine ⟨pb, t2, _, [.ref q], rfl, rfl, f5.at q1.1 (fun z => z), upd_same, one_sz (by rw [List.length_map, q2]; show PB.length + 1 ≤ 1000; omega), fun t3 ht3 => ?_⟩
    have f6 : Fr c0 (upd H4 t2 (.lst [.ref q])) (upd (upd H4 t2 (.lst [.ref q])) t3 (.lst (dsp.map V.ref ++ [.ref q]))) := Fr.new ht3
    have f46 := f5.trans f6
    have f26 := f24.trans f46
    have nt3 := nl (f2.free _ ((f24.trans f5).free _ ht3))
    have dx' : ∀ y ∈ e.ns ++ e.ps, hasR (PB ++ [e.ps.zip (os.map (·.v))]) y := fun y hy => by
      rcases List.mem_append.mp hy with z | z
      · exact (dPB y z).app _
      · exact hasR.zip (by omega) z
    have f06 := f2.trans (Fr.of0 (C := cT r1 r2) f26)
    refine ⟨_, rfl, _, rfl, _, rfl, vb, t3, kn, told, r1, r2, near, e.b, PB ++ [e.ps.zip (os.map (·.v))], tl, e.ns ++ e.ps, _, _, rfl, f06.sqT hTo, TA2.fr f26, ⟨Dp.fr f26 _ _ (tup_enc _) g6, PileAt.snoc (S := SL r1 r2) (S2 := SL r1 r2) (H := H) q2 (fun k d r e1 e2 => f46.at (q3 k d r e1 e2) (fun z => z)) (f46.at hq4 (fun z => z)) ⟨upd_same, nt3⟩, FunsAt.fr hS0 hC0 f26 g3⟩,
      ⟨E5, dx', E12, ePB2.mono fun y hy => hy.app _, by omega, by rw [List.length_append]; show PB.length + 1 + _ ≤ _; omega, by omega, by omega, by rw [List.length_append, List.length_append]; omega, by simp⟩, fun H7 f7 TA7 => ?_⟩
    have ev : dn near (.call f as) (l ++ e :: tl) P = ⟨(dn near e.b tl (PB ++ [e.ps.zip (os.map (·.v))])).v, os.flatMap (·.rows) ++ (dn near e.b tl (PB ++ [e.ps.zip (os.map (·.v))])).rows, os.flatMap (·.said) ++ (dn near e.b tl (PB ++ [e.ps.zip (os.map (·.v))])).said⟩ := by
      simp only [dn, den, hsm, ← hos, ← ePB]
    rw [ev] at k
    exact k H7 (f06.trans f7) (by simpa only [List.append_assoc] using TA7)
/-! ### a whole run of the law's -/
def spLRun (K : PySem.W.Frag) : Sp := fun vs H Q _ => ∃ (v : V) (tn : Addr) (near : Bool) (ins : List Str) (pt : Part) (ns : List Int), vs = [v, .ref tn, .bl near] ∧ Dp K H v (encP ins pt) ∧ SqT K H tn (ns.map V.int) ∧ ins.Nodup ∧ ns.length = ins.length ∧ ins.length ≤ 1000 ∧ WOk 130 pt [ins.zip ns] [] ins 0 ∧
  ∀ (t r1 r2 : Addr) H', Fr c0 H H' → H r1 = none → H r2 = none → SqT K H' t [.int (mean near ins pt ns).v, .ref r1, .ref r2] → TAt K H' r1 r2 (mean near ins pt ns).rows (mean near ins pt ns).said → Q (.ref t) H'
def t_lrun (K : PySem.W.Frag) : TS :=
  (tSeq (tAsg (tTup (tCons (tLst tNil) (tCons (tLst tNil) tNil))) (gName 3))
    (tSeq (tAsg (tCall (spLWork K 130) [] C8.E0 (tCons (tOp (rIxT K) (tVar 0) (tC (.int 1))) (tCons (tLst (tCons (tCall (spLRoom K) [] C8.E0 (tCons (tOp (rIxT K) (tVar 0) (tC (.int 0))) (tCons (tVar 1) tNil))) tNil)) (tCons tDNewK (tCons (tVar 3) (tCons (tVar 2) tNil)))))) (gName 4))
    (tRet (tTup (tCons (tVar 4) (tCons (tOp (rIxT K) (tVar 3) (tC (.int 0))) (tCons (tOp (rIxT K) (tVar 3) (tC (.int 1))) tNil)))))))
theorem pure_lrun {K : PySem.W.Frag} (vs : List V) (H : Hp) (Q : VK) (E : XK) (h : spLRun K vs H Q E) : t_lrun K { nx := fun _ H' => Q .non H', rt := Q } (start ["program", "numbers", "near", "told", "number"] vs) H := by
  obtain ⟨v, tn, near, ins, pt, ns, rfl, hd, hN, hnd, hl, h1000, O, k⟩ := h
  obtain ⟨t, ti, vp, rfl, hT, hI, dp⟩ := inv_P hd
  refine ⟨one_sz (Nat.zero_le _), fun r1 hr1 => ⟨one_sz (Nat.zero_le _), fun r2 hr2 => ⟨one_sz (by show 2 ≤ 1000; decide), fun to hto => ?_⟩⟩⟩
  have ne12 : r1 ≠ r2 := ne_of_none upd_same hr2
  have f1 : Fr c0 H (upd H r1 (.lst [])) := Fr.new hr1
  have f2 : Fr c0 (upd H r1 (.lst [])) (upd (upd H r1 (.lst [])) r2 (.lst [])) := Fr.new hr2
  have f3 : Fr c0 (upd (upd H r1 (.lst [])) r2 (.lst [])) (upd (upd (upd H r1 (.lst [])) r2 (.lst [])) to (.tup [.ref r1, .ref r2])) := Fr.new hto
  have TA0 : TAt K (upd (upd H r1 (.lst [])) r2 (.lst [])) r1 r2 [] [] := ⟨ne12, ⟨[], by rw [upd_ne ne12, upd_same], .nil⟩, upd_same⟩
  have TA3 := TA0.fr f3
  have hT3 : (upd (upd (upd H r1 (.lst [])) r2 (.lst [])) to (.tup [.ref r1, .ref r2])) to = some (.tup [.ref r1, .ref r2]) := upd_same
  have hr20 := f1.free _ hr2
  have f03 := (f1.trans f2).trans f3
  generalize (upd (upd (upd H r1 (.lst [])) r2 (.lst [])) to (.tup [.ref r1, .ref r2])) = H3 at f03 TA3 hT3 ⊢
  refine ⟨_, rfl, t, _, _, _, rfl, rfl, f03.sqT hT, rfl, _, rfl, t, _, _, _, rfl, rfl, f03.sqT hT, rfl, _, rfl, ti, tn, ins, ns, rfl, f03.sqT hI, .inr (f03.sqT hN), hl.symm, hnd, h1000, fun q H4 f4 hq0 hq4 => ⟨one_sz (by show 1 ≤ 1000; decide), fun l hl' => fun d hd' => ?_⟩⟩
  have f5 : Fr c0 H4 (upd H4 l (.lst [.ref q])) := Fr.new hl'
  have f6 : Fr c0 (upd H4 l (.lst [.ref q])) (upd (upd H4 l (.lst [.ref q])) d (.dK [])) := Fr.new hd'
  have f46 := f5.trans f6
  have hl6 := f6.at (show (upd H4 l (.lst [.ref q])) l = some (.lst [.ref q]) from upd_same) (fun z => z)
  have hd6 : (upd (upd H4 l (.lst [.ref q])) d (.dK [])) d = some (.dK []) := upd_same
  have nl1 : l ≠ r1 := fun z => by
    obtain ⟨rv, h1, _⟩ := (TA3.fr f4).rw
    rw [z, h1] at hl'; cases hl'
  have nl2 : l ≠ r2 := fun z => by rw [z, (TA3.fr f4).sd] at hl'; cases hl'
  generalize (upd (upd H4 l (.lst [.ref q])) d (.dK [])) = H6 at f46 hl6 hd6 ⊢
  have f36 := f4.trans f46
  have f06 := f03.trans f36
  refine ⟨_, rfl, _, rfl, vp, l, d, to, r1, r2, near, pt, [ins.zip ns], [], ins, [], [], rfl, f36.sqT (SqT.of hT3), TA3.fr f36, ⟨Dp.fr f06 _ _ (tup_enc pt) dp, ⟨[q], ⟨hl6, nl1, nl2⟩, rfl, fun k d' r e1 e2 => ?_⟩, hd6⟩, O, fun H7 f7 TA7 => ?_⟩
  · cases k with
    | zero =>
      have e1 : q = d' := by simpa using e1
      have e2 : ins.zip ns = r := by simpa using e2
      subst e1 e2
      exact f46.at hq4 (fun z => z)
    | succ k => simp at e1
  · have f07 : Fr c0 H H7 := f06.hide f7 fun a o o' e z => by
      rcases z.1 with rfl | rfl
      · rw [hr1] at e; cases e
      · rw [hr20] at e; cases e
    have hTo7 := f7.sqT (f36.sqT (SqT.of (K := K) hT3))
    refine ⟨_, rfl, _, rfl, to, _, _, _, rfl, rfl, hTo7, rfl, _, rfl, to, _, _, _, rfl, rfl, hTo7, rfl, one_sz (by show 3 ≤ 1000; decide), fun t3 ht3 => ?_⟩
    have f8 : Fr c0 H7 (upd H7 t3 (.tup [.int (mean near ins pt ns).v, .ref r1, .ref r2])) := Fr.new ht3
    exact k t3 r1 r2 _ (f07.trans f8) hr1 hr20 (SqT.of upd_same) (by simpa using TA7.fr f8)
end BN
namespace BN
open PySem L2 PyProof.Rows
theorem Box.fr0 {H H' : Hp} {bx il : Addr} (B : Box H bx il) (f : Fr c0 H H') : Box H' bx il := by
  obtain ⟨ns, sd, h1, h2, h3⟩ := B.ex
  exact ⟨ns, sd, f.at h1 (fun z => z), f.at h2 (fun z => z), h3⟩
theorem rows_small (l : List Row) : PyData.depthAll (l.map encRow) ≤ 1 ∧ wds (l.map encRow) ≤ 3 := by
  induction l with
  | nil => simp [PyData.depthAll, wds]
  | cons r t ih =>
    obtain ⟨x, k, n⟩ := r
    simp only [List.map_cons, PyData.depthAll, wds, encRow, PyData.depth, wd, List.length_cons, List.length_nil]
    omega
theorem ints_small (l : List Int) : PyData.depthAll (l.map PyData.int) = 0 ∧ wds (l.map PyData.int) = 0 := by
  induction l with
  | nil => simp [PyData.depthAll, wds]
  | cons r t ih =>
    simp only [List.map_cons, PyData.depthAll, wds, PyData.depth, wd]
    omega
theorem str_eqB (me : Str) : decide (V.str me = V.str "near") = decide (me = "near") := decide_eq_decide.mpr ⟨fun z => V.str.inj z, fun z => by rw [z]⟩
theorem Drawn.run {d : Int} {ins : List Str} {p : Part} (h : Drawn d ins p) (h5 : d ≤ 5) {ns : List Int} (hl : ns.length = ins.length) (hr : ∀ n ∈ ns, 0 ≤ n ∧ n ≤ 99) : RunOk ins p ns := by
  have := h.dpt h5
  exact ⟨h.okP h5, hl, hr, by omega, by omega⟩
theorem mean_len {near : Bool} {ins : List Str} {p : Part} {ns : List Int} {d : Int} (h : Drawn d ins p) (h5 : d ≤ 5) : (mean near ins p ns).rows.length + (mean near ins p ns).said.length ≤ 77186 :=
  Nat.le_trans (dn_len near p [] [ins.zip ns]) (h.dpt h5).2
/-! ### the law -/
def spLaw (K : PySem.W.Frag) : Sp := fun vs H Q _ => ∃ (a : Addr) (ns : List Int), vs = [.ref a] ∧ SqL K H a (ns.map V.int) ∧ ns.length ≤ 63 ∧ ∀ H', Q (.bl true) H'
def t_law (K : PySem.W.Frag) : TS :=
  (tSeq (tAsg (tCall (spBegun K) [] C8.E0 (tCons (tVar 0) tNil)) (gName 1))
    (tSeq (tAsg (tCall (spProgram K) [] C8.E0 (tCons (tVar 1) (tCons (tC (.int 5)) tNil))) (gName 2))
    (tSeq (tFor (iRng1 (tCons (tC (.int 3)) tNil)) (gName 3) (tSeq (tAsg (tCall (spNumbers K) [] C8.E0 (tCons (tVar 1) (tCons (tVar 2) tNil))) (gName 4))
    (tFor (iList K (tLst (tCons (tC (.str "near")) (tCons (tC (.str "called")) tNil)))) (gName 5) (tSeq (tAsg (tCall (spLRun K) [] C8.E0 (tCons (tVar 2) (tCons (tVar 4) (tCons (tOp rEq (tVar 5) (tC (.str "near"))) tNil)))) (gTup K 3 (gCons (gName 6) (gCons (gName 7) (gCons (gName 8) gNil)))))
    (tFor (iRng1 (tCons (tC (.int 2)) tNil)) (gName 9) (tSeq (tAsg (tCall (spRoomed K) [] C8.E0 (tCons (tVar 2) (tCons (tVar 4) (tCons (tVar 5) tNil)))) (gName 10))
    (tSeq (tIfS (tNot (tB (tCall (spAlike K 5) [] C8.E0 (tCons (tVar 10) (tCons (tVar 7) tNil))))) (tRet (tC (.bl false))) tNext)
    (tSeq (tDrop (tBM K "list" rAppend (tVar 10) (tCons (tTup tNil) tNil)))
    (tIfS (tNot (tB (tCall (spAlike K 5) [] C8.E0 (tCons (tCall (spRun K) [] C8.E0 (tCons (tVar 2) (tCons (tVar 4) (tCons (tVar 5) tNil)))) (tCons (tTup (tCons (tVar 6) (tCons (tCB (rTupSq K) (tCons (tVar 8) tNil)) tNil))) tNil))))) (tRet (tC (.bl false))) tNext)))))))))
    (tRet (tC (.bl true))))))
theorem pure_law {K : PySem.W.Frag} (vs : List V) (H : Hp) (Q : VK) (E : XK) (h : spLaw K vs H Q E) :
    t_law K { nx := fun _ H' => Q .non H', rt := Q } (start ["script", "box", "program", "turn", "numbers", "meaning", "number", "rows", "said", "again", "found"] vs) H := by
  obtain ⟨a, ns, rfl, hS, hl, k⟩ := h
  refine ⟨_, rfl, a, ns, rfl, hS, hl, fun bx il H1 f1 B1 => ?_⟩
  refine ⟨_, rfl, bx, il, 5, rfl, B1, by decide, by decide, fun ins pt vp H2 dr hd f2 B2 => ?_⟩
  obtain ⟨t, ti, vp', rfl, hT, hI, _⟩ := inv_P hd
  have O := dr.okP (by decide)
  have oil := O.il
  refine ⟨3, rfl, by decide, by decide, ?_⟩
  refine for_range (lo := 0) (n := 3) (fun i σ H' => ∃ s3 s4 s5 s6 s7 s8 s9 s10, σ = [some (.ref a), some (.ref bx), some (.ref t), s3, s4, s5, s6, s7, s8, s9, s10] ∧ Fr (cB bx il) H2 H' ∧ Box H' bx il) ⟨_, _, _, _, _, _, _, _, rfl, Fr.refl _, B2⟩ ?_ ?_
  · rintro i σ H3 hi ⟨s3, s4, s5, s6, s7, s8, s9, s10, rfl, f3, B3⟩
    refine ⟨_, rfl, _, rfl, bx, il, t, ti, vp', ins, rfl, B3, f3.sqT hT, f3.sqT hI, by omega, fun tn nums H4 hnl hnr hN f4 B4 => ?_⟩
    have R := dr.run (by decide) hnl hnr
    have f24 := f3.trans f4
    refine ⟨one_sz (by show 2 ≤ 1000; decide), fun lm hlm => ⟨lm, rfl, ⟨_, SqL.of upd_same⟩, ?_⟩⟩
    have f5 : Fr c0 H4 (upd H4 lm (.lst [.str "near", .str "called"])) := Fr.new hlm
    have hL5 : (upd H4 lm (.lst [.str "near", .str "called"])) lm = some (.lst [.str "near", .str "called"]) := upd_same
    generalize (upd H4 lm (.lst [.str "near", .str "called"])) = H5 at f5 hL5 ⊢
    have f25 := f24.trans (Fr.of0 f5)
    have hd5 := Dp.fr f25 _ _ (tup_encP ins pt) hd
    have hN5 : SqT K H5 tn (nums.map V.int) := f5.sqT (SqT.of hN)
    refine for_list (K := K) (a := lm) (xs := [.str "near", .str "called"]) (fun i σ H' => ∃ s3 s5 s6 s7 s8 s9 s10, σ = [some (.ref a), some (.ref bx), some (.ref t), s3, some (.ref tn), s5, s6, s7, s8, s9, s10] ∧ Fr c0 H5 H') ⟨_, _, _, _, _, _, _, rfl, Fr.refl _⟩
      (fun i σ H' _ ⟨_, _, _, _, _, _, _, _, f'⟩ => SqL.of (f'.at hL5 (fun z => z))) ?_ ?_
    · rintro i' x σ H6 hx ⟨s3, s5, s6, s7, s8, s9, s10, rfl, f6⟩
      obtain ⟨me, rfl, hme⟩ : ∃ me : Str, x = .str me ∧ (me = "near" ∨ me = "called") := by
        match i', hx with
        | 0, hx => exact ⟨"near", (Option.some.inj hx).symm, .inl rfl⟩
        | 1, hx => exact ⟨"called", (Option.some.inj hx).symm, .inr rfl⟩
      refine ⟨_, rfl, _, rfl, _, rfl, rfl, .ref t, tn, _, ins, pt, nums, rfl, Dp.sm f6 _ _ hd5, f6.sqT hN5, O.nd, hnl, by omega, R.w, fun t7 r1 r2 H7 f7 n1 n2 hT7 TA7 => ?_⟩
      rw [str_eqB] at hT7 TA7
      refine ⟨t7, _, rfl, hT7, rfl, _, _, rfl, _, _, rfl, _, _, rfl, rfl, ?_⟩
      have f57 := f6.trans f7
      have ml := mean_len (near := decide (me = "near")) (ns := nums) dr (by decide)
      refine ⟨2, rfl, by decide, by decide, ?_⟩
      refine for_range (lo := 0) (n := 2) (fun i σ H' => ∃ s3 s9 s10, σ = [some (.ref a), some (.ref bx), some (.ref t), s3, some (.ref tn), some (.str me), some (.int (mean (decide (me = "near")) ins pt nums).v), some (.ref r1), some (.ref r2), s9, s10] ∧ Fr c0 H7 H') ⟨_, _, _, rfl, Fr.refl _⟩ ?_ ?_
      · rintro i2 σ H8 hi2 ⟨s3, s9, s10, rfl, f8⟩
        have f58 := f57.trans f8
        refine ⟨_, rfl, _, rfl, _, rfl, .ref t, tn, me, ins, pt, nums, rfl, Dp.sm f58 _ _ hd5, f58.sqT hN5, R, hme, fun D rv H9 f9 hD0 eD dD => ?_⟩
        obtain ⟨rw9, g1, g2⟩ := (TA7.fr (f8.trans f9)).rw
        have rs := rows_small (mean (decide (me = "near")) ins pt nums).rows
        refine ⟨_, rfl, _, rfl, .ref D, .ref r1, .list ((mean (decide (me = "near")) ins pt nums).rows.map encRow), rfl, .lst (SqL.of eD) dD, .lst (SqL.of g1) g2, by simp only [PyData.depth]; omega, by simp only [wd, List.length_map]; omega, true, rfl, iteF ?_⟩
        refine ⟨_, rfl, .inl ⟨rfl, _, SqL.of eD⟩, one_sz (Nat.zero_le _), fun t0 ht0 => ?_⟩
        have f10 : Fr c0 H9 (upd H9 t0 (.tup [])) := Fr.new ht0
        have lrv : rv.length = (mean (decide (me = "near")) ins pt nums).rows.length := by rw [dD.len, List.length_map]
        refine ⟨D, rv, _, rfl, rfl, f10.at eD (fun z => z), Nat.lt_of_lt_of_le (m := 16000000) (by omega) (by rw [sizeLine_eq]; decide), ?_⟩
        have f11 : Fr c0 H8 (upd (upd H9 t0 (.tup [])) D (.lst (rv ++ [.ref t0]))) := (f9.trans f10).fresh hD0
        generalize (upd (upd H9 t0 (.tup [])) D (.lst (rv ++ [.ref t0]))) = H11 at f11 ⊢
        have f511 := f58.trans f11
        refine ⟨_, rfl, _, rfl, _, rfl, .ref t, tn, me, ins, pt, nums, rfl, Dp.sm f511 _ _ hd5, f511.sqT hN5, R, hme, fun v H12 f12 dv => ?_⟩
        have TA12 := TA7.fr ((f8.trans f11).trans f12)
        refine ⟨_, rfl, _, rfl, r2, _, rfl, .inl ⟨SqL.of TA12.sd, fun u hu => ⟨one_sz (by show 2 ≤ 1000; decide), fun t3 ht3 => ?_⟩⟩⟩
        have f13 : Fr c0 H12 (upd H12 u (.tup ((mean (decide (me = "near")) ins pt nums).said.map V.int))) := Fr.new hu
        have f14 : Fr c0 (upd H12 u (.tup ((mean (decide (me = "near")) ins pt nums).said.map V.int))) (upd (upd H12 u (.tup ((mean (decide (me = "near")) ins pt nums).said.map V.int))) t3 (.tup [.int (mean (decide (me = "near")) ins pt nums).v, .ref u])) := Fr.new ht3
        have is := ints_small (mean (decide (me = "near")) ins pt nums).said
        refine ⟨v, .ref t3, _, rfl, Dp.sm (f13.trans f14) _ _ dv, .tup (SqT.of upd_same) (.cons (.int _) (.cons (.tup (SqT.of (f14.tup upd_same)) (DpAll.ints _)) .nil)), by simp only [PyData.depth, PyData.depthAll]; omega, by simp only [wd, wds, List.length_map, List.length_cons, List.length_nil]; omega, true, rfl, iteF ?_⟩
        exact ⟨_, _, _, rfl, ((f8.trans f11).trans f12).trans (f13.trans f14)⟩
      · rintro σ H8 ⟨s3, s9, s10, rfl, f8⟩
        exact ⟨_, _, _, _, _, _, _, rfl, f57.trans f8⟩
    · rintro σ H6 ⟨s3, s5, s6, s7, s8, s9, s10, rfl, f6⟩
      exact ⟨_, _, _, _, _, _, _, _, rfl, f25.trans (Fr.of0 f6), B4.fr0 (f5.trans f6)⟩
  · rintro σ H3 ⟨s3, s4, s5, s6, s7, s8, s9, s10, rfl, f3, B3⟩
    exact k H3
end BN
namespace BN
open PySem L2 PyProof.Rows
/-! ### all numbers from 0 to 3 -/
abbrev encN (ns : List Int) : PyData := .tuple (ns.map .int)
def quad (ns : List Int) : List (List Int) := (List.range 4).map fun (k : Nat) => ns ++ [(k : Int)]
def allN : Nat → List (List Int)
  | 0 => [[]]
  | m + 1 => (allN m).flatMap quad
theorem tup_encN (l : List (List Int)) : tupDs (l.map encN) = true := tupDs_all fun d hd => by
  obtain ⟨ns, _, rfl⟩ := List.mem_map.mp hd
  simp only [encN, tupD]
  exact tupDs_all fun x hx => by
    obtain ⟨n, _, rfl⟩ := List.mem_map.mp hx
    simp [tupD]
theorem tup_encN1 (ns : List Int) : tupD (encN ns) = true := by
  have := tup_encN [ns]
  simpa [tupDs] using this
theorem quad_len (ns : List Int) : (quad ns).length = 4 := by simp [quad]
theorem allN_len : ∀ m, m ≤ 3 → (allN m).length ≤ 64
  | 0, _ => by decide
  | 1, _ => by decide +kernel
  | 2, _ => by decide +kernel
  | 3, _ => by decide +kernel
  | n + 4, h => absurd h (by omega)
theorem allN_mem : ∀ m ns, ns ∈ allN m → ns.length = m ∧ ∀ n ∈ ns, 0 ≤ n ∧ n ≤ 99
  | 0, ns, h => by
    have : ns = [] := by simpa [allN] using h
    subst this; simp
  | m + 1, ns, h => by
    simp only [allN, List.mem_flatMap] at h
    obtain ⟨ms, hm, h⟩ := h
    obtain ⟨e, r⟩ := allN_mem m ms hm
    simp only [quad, List.mem_map, List.mem_range] at h
    obtain ⟨k, hk, rfl⟩ := h
    refine ⟨by simp [e], fun n hn => ?_⟩
    rcases List.mem_append.mp hn with z | z
    · exact r n z
    · rw [List.mem_singleton.mp z]; omega
theorem flat_take {α β : Type} {f : α → List β} {l : List α} {i : Nat} {x : α} (h : l[i]? = some x) : (l.take (i + 1)).flatMap f = (l.take i).flatMap f ++ f x := by
  rw [take_more h, List.flatMap_append]; simp
def spAll (K : PySem.W.Frag) : Sp := fun vs H Q _ => ∃ (m : Nat), vs = [.int (m : Int)] ∧ m ≤ 3 ∧
  ∀ (D : Addr) xs H', Fr c0 H H' → H D = none → H' D = some (.lst xs) → DpAll K H' xs ((allN m).map encN) → Q (.ref D) H'
def t_all (K : PySem.W.Frag) : TS :=
  (tSeq (tAsg (tLst (tCons (tTup tNil) tNil)) (gName 1))
    (tSeq (tFor (iRng1 (tCons (tVar 0) tNil)) (gName 2) (tSeq (tAsg (tLst tNil) (gName 3))
    (tSeq (tFor (iList K (tVar 1)) (gName 4) (tDrop (tBM K "list" rExtend (tVar 3) (tCons (tLc (iRng1 (tCons (tC (.int 4)) tNil)) (gName 5) tYes (tOp (rCatA K) (tVar 4) (tTup (tCons (tVar 5) tNil))) [5]) tNil))))
    (tAsg (tVar 3) (gName 1)))))
    (tRet (tVar 1))))
theorem pure_all {K : PySem.W.Frag} (vs : List V) (H : Hp) (Q : VK) (E : XK) (h : spAll K vs H Q E) : t_all K { nx := fun _ H' => Q .non H', rt := Q } (start ["many", "found", "turn", "longer", "numbers", "number"] vs) H := by
  obtain ⟨m, rfl, hm, k⟩ := h
  refine ⟨one_sz (by show 0 ≤ 1000; decide), fun t0 ht0 => ⟨one_sz (by show 1 ≤ 1000; decide), fun F0 hF0 => ?_⟩⟩
  have f1 : Fr c0 H (upd H t0 (.tup [])) := Fr.new ht0
  have f2 : Fr c0 (upd H t0 (.tup [])) (upd (upd H t0 (.tup [])) F0 (.lst [.ref t0])) := Fr.new hF0
  have d2 : DpAll K (upd (upd H t0 (.tup [])) F0 (.lst [.ref t0])) [.ref t0] ((allN 0).map encN) := .cons (.tup (SqT.of (f2.tup upd_same)) .nil) .nil
  refine ⟨_, rfl, m, rfl, by omega, by omega, ?_⟩
  refine for_range (lo := 0) (n := m) (fun i σ H' => ∃ F xs s2 s3 s4 s5, σ = [some (.int (m : Int)), some (.ref F), s2, s3, s4, s5] ∧ Fr c0 H H' ∧ H F = none ∧ H' F = some (.lst xs) ∧ DpAll K H' xs ((allN i).map encN))
    ⟨_, _, _, _, _, _, rfl, f1.trans f2, f1.free _ hF0, upd_same, d2⟩ ?_ ?_
  · rintro i σ H3 hi ⟨F, xs, s2, s3, s4, s5, rfl, f3, hF, eF, dF⟩
    have lx : xs.length = (allN i).length := by rw [dF.len, List.length_map]
    have l64 := allN_len i (by omega)
    refine ⟨one_sz (by show 0 ≤ 1000; decide), fun L0 hL0 => ?_⟩
    refine ⟨_, rfl, F, rfl, ⟨_, SqL.of ((Fr.new (C := c0) hL0).at eF (fun z => z))⟩, ?_⟩
    refine for_list (K := K) (a := F) (xs := xs) (fun j σ H' => ∃ L ys s2 s4 s5, σ = [some (.int (m : Int)), some (.ref F), s2, some (.ref L), s4, s5] ∧ Fr c0 H3 H' ∧ H3 L = none ∧ H' L = some (.lst ys) ∧ DpAll K H' ys ((((allN i).take j).flatMap quad).map encN))
      ⟨_, _, _, _, _, rfl, Fr.new hL0, hL0, upd_same, .nil⟩ (fun j σ H' _ ⟨_, _, _, _, _, _, f', _⟩ => SqL.of (f'.at eF (fun z => z))) ?_ ?_
    · rintro j x σ H4 hx ⟨L, ys, s2, s4, s5, rfl, f4, hL, eL, dL⟩
      obtain ⟨d, hd, Dx⟩ := dF.getV hx
      obtain ⟨ns, hns, rfl⟩ := map_at hd
      have Dx4 := Dp.fr f4 _ _ (tup_encN1 ns) Dx
      obtain ⟨a, us, rfl, hA, hu⟩ := Dx4.tup_inv
      have eu := hu.ints_inv
      subst eu
      have nlen := (allN_mem i ns (List.mem_of_getElem? hns)).1
      have jl := at_lt hns
      have tl : ys.length ≤ 4 * 64 := by
        rw [dL.len, List.length_map]
        have q : ∀ l : List (List Int), (l.flatMap quad).length = 4 * l.length := fun l => by
          induction l with
          | nil => rfl
          | cons a r ih => rw [List.flatMap_cons, List.length_append, ih, quad_len, List.length_cons]; omega
        rw [q, List.length_take]; omega
      refine ⟨_, rfl, .inl ⟨rfl, _, SqL.of eL⟩, ?_⟩
      refine ⟨4, rfl, by decide, by decide, ?_⟩
      refine lcG_range (K := K) (C := c0) (I := fun _ => True) (Good := fun k d => d = encN (ns ++ [(k : Int)])) (fun _ _ _ _ h => h) (fun _ _ _ z => z) trivial (by decide) ?_ ?_
      · intro q hq H5 f5 _ Q' hQ'
        refine ⟨_, rfl, _, rfl, one_sz (by show 1 ≤ 1000; decide), fun t1 ht1 => ?_⟩
        have g1 : Fr c0 H5 (upd H5 t1 (.tup [.int (0 + (q : Nat))])) := Fr.new ht1
        have e0 : (0 + (q : Nat) : Int) = ((q : Nat) : Int) := Int.zero_add _
        rw [e0] at g1 ⊢
        refine ⟨a, t1, ns.map V.int, [.int (q : Nat)], rfl, rfl, (f5.trans g1).sqT hA, SqT.of upd_same, one_sz (by rw [List.length_map]; show ns.length + 1 ≤ 1000; omega), fun hn => ?_, fun _ z => (by cases z), fun hn _ t2 ht2 => ?_⟩
        · have hn' : ns = [] := by simpa using hn
          subst hn'
          exact hQ' _ _ _ rfl (tup_encN1 _) (.tup (SqT.of upd_same) (.cons (.int _) .nil)) g1 trivial
        · refine hQ' _ _ _ rfl (tup_encN1 _) ?_ (g1.trans (Fr.new ht2)) trivial
          have := DpAll.ints (K := K) (H := upd (upd H5 t1 (.tup [.int (q : Nat)])) t2 (.tup (ns.map V.int ++ [.int (q : Nat)]))) (ns ++ [(q : Int)])
          rw [List.map_append (f := V.int)] at this
          exact .tup (SqT.of upd_same) this
      · intro D vs ds H5 hD eD dD ld gd f5 _
        have eL5 := f5.at eL (fun z => z)
        have ld : ds.length = 4 := ld
        have vl : vs.length = 4 := by rw [dD.len, ld]
        refine ⟨L, D, ys, vs, rfl, rfl, eL5, eD, one_sz (by omega), ?_⟩
        have ed : ds = (quad ns).map encN := by
          refine List.ext_getElem? fun q => ?_
          by_cases hq : q < 4
          · obtain ⟨d, hd⟩ := get_lt (l := ds) (i := q) (by omega)
            rw [hd, (gd q d hd).1]
            have : (quad ns)[q]? = some (ns ++ [(q : Int)]) := by
              unfold quad
              rw [List.getElem?_map, List.getElem?_range hq]; rfl
            rw [List.getElem?_map, this]; rfl
          · rw [List.getElem?_eq_none (by omega), List.getElem?_eq_none (by rw [List.length_map, quad_len]; omega)]
        subst ed
        have f6 : Fr c0 H3 (upd H5 L (.lst (ys ++ vs))) := (f4.trans f5).fresh hL
        have f7 : Fr (fun a _ => a = L) H5 (upd H5 L (.lst (ys ++ vs))) := Fr.set eL5 rfl trivial
        refine ⟨L, ys ++ vs, _, _, _, rfl, f6, hL, upd_same, ?_⟩
        rw [flat_take hns, List.map_append]
        exact (Dp.frs f7 _ _ (tup_encN _) (Dp.frs f5 _ _ (tup_encN _) dL)).append (Dp.frs f7 _ _ (tup_encN _) dD)
    · rintro σ H4 ⟨L, ys, s2, s4, s5, rfl, f4, hL, eL, dL⟩
      refine ⟨_, rfl, L, ys, _, _, _, _, rfl, f3.trans f4, f3.free _ hL, eL, ?_⟩
      rw [lx, List.take_of_length_le (Nat.le_refl _)] at dL
      exact dL
  · rintro σ H3 ⟨F, xs, s2, s3, s4, s5, rfl, f3, hF, eF, dF⟩
    exact ⟨_, rfl, k F xs H3 f3 hF eF dF⟩
end BN
namespace BNQ
open PySem PySem.Spec PyProof.Rows L2
/-! ### sorted(..) of any length: a dict of ints, a set of ints, a dict's items -/
theorem sort_tail {prog : Program} {w : World} {A : Around} {β : Type} (enc : β → PyData) {R : Value → β → Prop} {s1 : Shared} {out : List Value} {bs : List β} {P : PySem.Fin → Shared → Prop} {E : Value → Shared → Prop}
    (e : PySem.W.EachIs R out bs) (er : PySem.W.EachIs (fun v b => ∃ as, Reads s1.heap v (enc b) as) out bs) (hal : PySem.W.AllAlike (bs.map enc)) (hk : PySem.W.Sortable (bs.map enc)) (hL : bs.length ≤ sizeLine) (hu : ∀ b, b ∈ bs → A.units + (enc b).depth < cLine)
    (h : ∀ out' : List Value, out'.length = bs.length → PySem.W.EachIs R out' (bs.mergeSort (PySem.W.dataLe false enc)) → P (.done (.ret .none)) { s1 with heap := sortedHeap (s1.heap.push (seqObj "list" out.toArray 0)) s1.heap.objs.size out out'.toArray }) :
    wpAny (model prog w) A (Builtin.«list.sort» ⟨[.ref s1.heap.objs.size], []⟩) P E { s1 with heap := s1.heap.push (seqObj "list" out.toArray 0) } := by
  have ho : (s1.heap.push (seqObj "list" out.toArray 0)).get? s1.heap.objs.size = some (seqObj "list" out.toArray 0) := Heap.get?_push_size _ rfl
  have old : ∀ b o, s1.heap.get? b = some o → (PySem.W.sortingHeap (s1.heap.push (seqObj "list" out.toArray 0)) s1.heap.objs.size out).get? b = some o := fun b o q =>
    PySem.W.sortingHeap_old (Nat.ne_of_lt (Heap.lt_size q)) (Heap.get?_push_of_some _ q)
  have er' : PySem.W.EachIs (fun v b => ∃ as, Reads (PySem.W.sortingHeap (s1.heap.push (seqObj "list" out.toArray 0)) s1.heap.objs.size out) v (enc b) as) out bs := er.mono fun _ _ ⟨as, r⟩ => ⟨as, PyProof.Rows.Reads.keeps old r⟩
  exact PySem.W.list_sort_vals (s := { s1 with heap := s1.heap.push (seqObj "list" out.toArray 0) }) ho
    (PySem.W.SortsAt.data (s := { s1 with heap := PySem.W.sortingHeap (s1.heap.push (seqObj "list" out.toArray 0)) s1.heap.objs.size out }) (PySem.W.each_map (R := fun v d => ∃ as, Reads (PySem.W.sortingHeap (s1.heap.push (seqObj "list" out.toArray 0)) s1.heap.objs.size out) v d as) enc er') hal hk (PySem.W.bound_map hu)) (by rw [e.length]; exact hL)
    (h _ (by rw [PySem.W.sortVals_length false rfl]; exact e.length) (PySem.W.sortVals_data false e er' hal))
def IsI (v : Value) (i : Int) : Prop := ∃ t, v = Value.int i t
theorem each_ints : ∀ {vs : List Value} {is : List Int}, vs.length = is.length → (∀ (j : Nat) (v : Value), vs[j]? = some v → ∃ i t, is[j]? = some i ∧ v = Value.int i t) → PySem.W.EachIs IsI vs is
  | [], [], _, _ => .nil
  | u :: us, k :: ks, hl, h => by
    obtain ⟨i, t, e1, e2⟩ := h 0 u rfl
    have e1' : k = i := Option.some.inj e1
    subst e1'
    exact .cons ⟨t, e2⟩ (each_ints (by simpa using hl) fun j v e => h (j + 1) v (by simpa using e))
  | [], _ :: _, hl, _ => by simp at hl
  | _ :: _, [], hl, _ => by simp at hl
theorem ints_vals : ∀ {vs : List Value} {is : List Int}, PySem.W.EachIs IsI vs is → Vals (is.map V.int) vs
  | _, _, .nil => .nil
  | _, _, .cons ⟨t, e⟩ r => .cons ⟨t, e⟩ (ints_vals r)
theorem ints_er {h : Heap} {vs : List Value} {is : List Int} (e : PySem.W.EachIs IsI vs is) : PySem.W.EachIs (fun v i => ∃ as, Reads h v (PyData.int i) as) vs is :=
  e.mono fun v i ⟨t, q⟩ => by subst q; exact ⟨_, Reads.int i t⟩
theorem ints_le (is : List Int) : (is.mergeSort (PySem.W.dataLe false PyData.int)).Perm is ∧ (is.mergeSort (PySem.W.dataLe false PyData.int)).Pairwise (· ≤ ·) := by
  refine ⟨List.mergeSort_perm _ _, ?_⟩
  have e : PySem.W.dataLe false PyData.int = fun a b : Int => decide (a ≤ b) := PySem.W.dataLe_int (fun b => b)
  rw [e]
  have := List.pairwise_mergeSort (le := fun a b : Int => decide (a ≤ b)) (fun a b c h1 h2 => by simp at h1 h2 ⊢; omega) (fun a b => by simp; omega) is
  exact this.imp fun h => by simpa using h
def rSortDI : List V → Hp → VK → Prop := fun xs H Q => ∃ (a : Addr) (kvs : List (Key × V)) (ks : List Int), xs = [.ref a] ∧ Rd H a (.dK kvs) ∧ kvs.map (·.1) = ks.map Sum.inl ∧ ks.length ≤ 100000 ∧
    ∀ (ys : List Int) p, ys.Perm ks → ys.Pairwise (· ≤ ·) → H p = none → Q (.ref p) (upd H p (.lst (ys.map V.int)))
def rSortSI (P : Program) (w : World) : List V → Hp → VK → Prop := fun vs H Q => ∃ (p : Addr) (xs : List Int), vs = [.ref p] ∧ H p = some (BNS.SetIO P w p xs) ∧
  ∀ (ys : List Int) q, ys.Pairwise (· < ·) → (∀ k, k ∈ ys ↔ k ∈ xs) → H q = none → Q (.ref q) (upd H q (.lst (ys.map V.int)))
section
variable {X : Cx}
theorem call_sortDI (hcalm : X.calm = true) (hu : X.A.units + 64 < cLine) : CallR X (.builtin "sorted") rSortDI := by
  intro pins s σ H xs us Q I r q
  obtain ⟨a, kvs, ks, ex, hd, hks, h64, q⟩ := q
  subst ex
  obtain ⟨u, eu, rx⟩ := vals1 r
  subst eu
  cases rx
  obtain ⟨z, lo, vs, rel, dd⟩ := dk_rd I.hok hd
  obtain ⟨ep, hat⟩ := dd.dictAt
  have hkeys : vs.map (·.1) = ks.map Sum.inl := rel.keys.symm.trans hks
  have hl : vs.length = ks.length := by
    have e := congrArg List.length hkeys
    rw [List.length_map, List.length_map] at e
    exact e
  have h16 : vs.length ≤ sizeLine := by rw [hl, sizeLine_eq]; omega
  refine Calls.call_function_entry PyProof.Rows.kind_sorted PyProof.Rows.plain_sorted PyProof.Rows.entry_sorted (PyProof.Rows.args_sorted1 _) ?_
  unfold Builtin.«sorted»
  refine wpAny_bind (m := checkCount "sorted" 1 1 _) (wpAny_pure ?_)
  refine wpAny_bind (PySem.W.kdu_collect (A := X.A.in1) (PySem.W.kdl_dict (knd := mixKind X.prog X.w) (kvs := vs) (ep := ep) lo) (I.ok.hd hcalm) hat h16 fun h' tk acc hk hacc => ?_)
  have hal : acc.toList.length = ks.length := by rw [Array.length_toList, hacc.1, hl]
  have hS : PySem.W.EachIs IsI acc.toList ks := each_ints hal fun j v e => by
    obtain ⟨k, x, e1, e2⟩ := hacc.2 j v (by rw [← Array.getElem?_toList]; exact e)
    have e3 : (vs.map (·.1))[j]? = some k := by rw [List.getElem?_map, e1]; all_goals rfl
    rw [hkeys, List.getElem?_map] at e3
    cases e4 : ks[j]? with
    | none => rw [e4] at e3; cases e3
    | some y =>
      rw [e4] at e3
      have e5 : Sum.inl y = k := Option.some.inj e3
      subst e5
      obtain ⟨t, ev⟩ := Value.isInt_shape (k := y) (v := v) e2
      exact ⟨y, t, rfl, ev⟩
  have I1 : Inv X pins σ H { s with heap := h', toks := tk } := I.kept hk
  refine wpAny_bind (wpAny_newList ?_ (by rw [hal, sizeLine_eq]; omega))
  have hoL : (h'.push (seqObj "list" acc.toList.toArray 0)).get? h'.objs.size = some (seqObj "list" acc.toList.toArray 0) := Heap.get?_push_size _ rfl
  show wpAny _ _ _ _ _ { s with heap := h'.push (seqObj "list" acc.toList.toArray 0), toks := tk }
  refine wpAny_bind (wpAny_holding (wpAny_call_entry PyProof.Rows.slot_list_sort ⟨_, hoL, rfl⟩ PyProof.Rows.entry_list_sort
    (sort_tail (s1 := { s with heap := h', toks := tk }) PyData.int hS (ints_er hS) (PySem.W.AllAlike.of fun b b' => by simp [PySem.W.alike]) (PySem.W.Sortable.others fun b => ⟨by simp, by simp⟩) (by rw [sizeLine_eq]; omega)
      (fun b _ => by show X.A.in1.in1.units + (PyData.int b).depth < cLine; simp only [PyData.depth]; show X.A.units + 1 + 1 + 0 < cLine; omega) fun out' hlo heo => ⟨_, rfl, ?_⟩) (PyProof.Rows.args_list_sort _)))
  obtain ⟨g2, g3⟩ := ints_le ks
  obtain ⟨e', he'⟩ := PyProof.Rows.sortedHeap_at (vs := acc.toList) (out := out'.toArray) hoL
  have hlen : ((ks.mergeSort (PySem.W.dataLe false PyData.int)).map V.int).length ≤ sizeLine := by
    rw [List.length_map, g2.length_eq, sizeLine_eq]; omega
  refine wpAny_pure ⟨_, rfl, .ref h'.objs.size, upd H h'.objs.size (.lst ((ks.mergeSort (PySem.W.dataLe false PyData.int)).map V.int)), I1.laid (t' := tk) (fun b u e => ?_) (Nat.le_refl _)
    (show ObjOk X.prog X.w _ _ _ (.lst ((ks.mergeSort (PySem.W.dataLe false PyData.int)).map V.int)) from ⟨hlen, out', e', ints_vals heo, he'⟩), rfl, q _ _ g2 g3 (I1.hok.fresh (Nat.le_refl _))⟩
  have hb : b < h'.objs.size := Heap.lt_size e
  rw [PyProof.Rows.sortedHeap_old (Nat.ne_of_lt hb) (by rw [size_push']; exact Nat.lt_succ_of_lt hb)]
  exact Heap.get?_push_of_some _ e
theorem each_of_ints : ∀ {vs : List Value} {is : List Int}, IntsAre vs is → PySem.W.EachIs IsI vs is
  | _, _, .nil => .nil
  | _, _, .cons i t r => .cons ⟨t, rfl⟩ (each_of_ints r)
theorem call_sortSI (hc : X.calm = true) (hu : X.A.units + 64 < cLine) : CallR X (.builtin "sorted") (rSortSI X.prog X.w) := by
  intro pins s σ H xs us Q I r h
  obtain ⟨p, ks, rfl, hp, q⟩ := h
  rw [Vals.ref1 r]
  obtain ⟨L, ⟨o, es, ep, t, ho, hex, hd, hrow, nd, hb, hf, hr, hl⟩, _, hm⟩ := BNS.holds_of I hp
  have e0 := BNS.rows_len hrow
  have hsz' : L.length ≤ sizeLine := Nat.le_trans (Nat.le_of_lt hb) (by rw [sizeLine_eq]; decide)
  refine Calls.call_function_entry PyProof.Rows.kind_sorted PyProof.Rows.plain_sorted PyProof.Rows.entry_sorted (PyProof.Rows.args_sorted1 _) ?_
  unfold Builtin.«sorted»; refine wpAny_bind (m := checkCount "sorted" 1 1 _) (wpAny_pure (wpAny_bind (collect_set (A := X.A.in1) (I.ok.hd hc) ⟨o, ho, hex.1, hd⟩ hf (by rw [e0]; exact hb) hr hl fun s1 vs k1 hz g1 o1 pm => ?_)))
  obtain ⟨L1, hS, pL⟩ := BNS.ints_perm pm.symm (BNS.rows_ints hrow)
  have eS := each_of_ints hS
  have lv : vs.length ≤ sizeLine := by rw [hS.length, ← pL.length_eq]; exact hsz'
  have lL : L1.length ≤ sizeLine := by rw [← pL.length_eq]; exact hsz'
  refine wpAny_bind (wpAny_newList ?_ lv)
  have hoL : (s1.heap.push (seqObj "list" vs.toArray 0)).get? s1.heap.objs.size = some (seqObj "list" vs.toArray 0) := Heap.get?_push_size _ rfl
  refine wpAny_bind (wpAny_holding (wpAny_call_entry PyProof.Rows.slot_list_sort ⟨_, hoL, rfl⟩ PyProof.Rows.entry_list_sort
    (sort_tail (s1 := s1) PyData.int eS (ints_er eS) (PySem.W.AllAlike.of fun b b' => by simp [PySem.W.alike]) (PySem.W.Sortable.others fun b => ⟨by simp, by simp⟩) lL
      (fun b _ => by show X.A.in1.in1.units + (PyData.int b).depth < cLine; simp only [PyData.depth]; show X.A.units + 1 + 1 + 0 < cLine; omega) fun out' hlo heo => ⟨_, rfl, ?_⟩) (PyProof.Rows.args_list_sort _)))
  obtain ⟨g2, g3⟩ := ints_le L1
  obtain ⟨e', he'⟩ := PyProof.Rows.sortedHeap_at (vs := vs) (out := out'.toArray) hoL
  have pAll : (L1.mergeSort (PySem.W.dataLe false PyData.int)).Perm L := g2.trans pL.symm
  have hlen : ((L1.mergeSort (PySem.W.dataLe false PyData.int)).map V.int).length ≤ sizeLine := by rw [List.length_map, pAll.length_eq]; exact hsz'
  refine wpAny_pure ⟨_, rfl, .ref s1.heap.objs.size, upd H s1.heap.objs.size (.lst ((L1.mergeSort (PySem.W.dataLe false PyData.int)).map V.int)), BNS.fin_laid I (fun b u e => ?_) hz ?_ g1 o1, rfl, q _ _ (lt_of_le_nodup _ g3 (pAll.nodup_iff.mpr nd)) (fun k => by rw [pAll.mem_iff, hm]) (I.hok.fresh hz)⟩
  · have q' := k1 b u e
    have hlt := Heap.lt_size q'
    rw [PyProof.Rows.sortedHeap_old (Nat.ne_of_lt hlt) (by rw [size_push']; exact Nat.lt_succ_of_lt hlt)]
    exact Heap.get?_push_of_some _ q'
  · exact ⟨hlen, out', e', ints_vals heo, he'⟩
end
end BNQ
namespace BNQ
open PySem PySem.Spec PyProof.Rows L2
/-! ### sorted(d.items()) of a dict from texts to ints -/
def ItV (r d : Addr) : HO := .ext fun h => h.get? r = some { cls := .type "dict_items", data := .fields #[.ref d] }
abbrev rItems : V → List V → Hp → VK → Prop := fun x xs H Q => ∃ (d : Addr) (kvs : List (Key × V)), x = .ref d ∧ xs = [] ∧ H d = some (.dK kvs) ∧ ∀ r, H r = none → Q (.ref r) (upd H r (ItV r d))
abbrev encE (e : Str × Int) : PyData := .tuple [.str e.1, .int e.2]
abbrev kvE (e : Str × Int) : Key × V := (Sum.inr e.1, .int e.2)
def srtE (es : List (Str × Int)) : List (Str × Int) := es.mergeSort (PySem.W.dataLe false encE)
inductive TupsAt (H : Hp) : List Addr → List (Str × Int) → Prop
  | nil : TupsAt H [] []
  | cons {t : Addr} {e : Str × Int} {ts es} : H t = some (.tup [.str e.1, .int e.2]) → TupsAt H ts es → TupsAt H (t :: ts) (e :: es)
def rSortIt : List V → Hp → VK → Prop := fun xs H Q => ∃ (r d : Addr) (es : List (Str × Int)), xs = [.ref r] ∧ H r = some (ItV r d) ∧ H d = some (.dK (es.map kvE)) ∧ es.length ≤ 100000 ∧
  ∀ (H' : Hp) p ts, (∀ b o, H b = some o → H' b = some o) → H p = none → H' p = some (.lst (ts.map V.ref)) → TupsAt H' ts (srtE es) → Q (.ref p) H'
section
variable {X : Cx}
theorem mt_items : MtR X "dict.items" rItems := by
  intro pins s σ H x xs v us Q I rx rv h
  obtain ⟨d, kvs, rfl, rfl, hd, q⟩ := h
  cases rx
  cases rv
  obtain ⟨hz, hs0, vs, kv, hdo⟩ := I.hok d _ hd
  refine call_meetsIn F.slot_dict_items hdo.typeIs F.entry_dict_items (F.args_dict_items_1 _) (meets_dict_items (mixKind X.prog X.w) d hs0) ⟨⟨vs, hdo⟩, ?_⟩
  have ho : (s.heap.push { cls := .type "dict_items", data := .fields #[.ref d] }).get? s.heap.objs.size = some { cls := .type "dict_items", data := .fields #[.ref d] } := Heap.get?_push_size _ rfl
  exact ⟨.ref s.heap.objs.size, _, I.laid (t' := s.toks) (fun b u e => Heap.get?_push_of_some _ e) (Nat.le_refl _)
    (show ObjOk X.prog X.w _ _ _ (ItV s.heap.objs.size d) from ⟨ho, ⟨_, ho⟩, fun h1 h2 r k => k _ r⟩), rfl, q _ (I.hok.fresh (Nat.le_refl _))⟩
theorem tups_laid {pins : List (Addr × Obj)} {σ : L2.St} {H : Hp} {s : Shared} {h' : Heap} {tk : Nat} {kvs : List (Key × V)} {vs : List (Key × Value)} {as : List Addr} (I : Inv X pins σ H s) (kv : KV kvs vs)
    (hk : ∀ b o, s.heap.get? b = some o → h'.get? b = some o) (hl : as.length = vs.length) (hG : PySem.W.KdxG (mixKind X.prog X.w) vs s.heap.objs.size h' as) :
    ∃ H' : Hp, (∀ b o, H b = some o → H' b = some o) ∧ Paired (fun (t : Addr) (q : Key × V) => H' t = some (.tup [kV q.1, q.2])) as kvs ∧ Inv X pins σ H' { s with heap := h', toks := tk } := by
  have lk : kvs.length = vs.length := Paired.length kv
  have nd : as.Nodup := List.Pairwise.imp (fun {a b} (h : a < b) => Nat.ne_of_lt h) hG.rise
  have new : ∀ t ∈ as, H t = none := fun t ht => I.hok.fresh (Nat.le_of_lt (hG.above t ht))
  have atP := LiI.putT_at as kvs H (by omega) nd
  have off : ∀ b, b ∉ as → LiI.putT H as kvs b = H b := fun b h1 => LiI.putT_off as kvs _ h1
  have low : ∀ b o, s.heap.get? b = some o → b ∉ as := fun b o e => fun z => absurd (Heap.lt_size e) (Nat.not_lt.mpr (Nat.le_of_lt (hG.above b z)))
  have kp : ∀ b u, H b = some u → LiI.putT H as kvs b = some u := fun b u e => by
    rw [off b (fun z => by rw [new b z] at e; cases e)]
    exact e
  refine ⟨LiI.putT H as kvs, kp, atP, ?_⟩
  refine I.call' (ch := []) rfl ⟨fun b o q _ _ _ => hk b o q, fun b o q _ _ _ => ⟨o.slots, hk b o q⟩, fun b o q n _ => ?_, fun b o q _ => ⟨o, hk b o q⟩, fun b xs q => kp b _ q, fun b o u q => kp b _ q, fun b ps q => ⟨#[], by rw [kp b _ q]; simp⟩⟩ (fun b u q => ?_) I.bare fun b z => by simp at z
  · rw [off b (low b o q)]
    exact n
  · by_cases hb : b ∈ as
    · obtain ⟨j, pk, e1, e2, e3⟩ := LiI.paired_ix atP hb
      rw [e3] at q
      cases q
      obtain ⟨key, k, x, f1, f2, f3⟩ := hG.pairs j b e1
      obtain ⟨qv, g1, g2, g3⟩ := LiI.paired_get kv e2
      rw [f1] at g1
      cases g1
      have rk : RelV (kV pk.1) key := by
        rw [g2]
        exact relV_key (show keyIs k key = true from f2)
      exact ⟨by show 2 ≤ sizeLine; decide, [key, x], .cons rk (.cons g3 .nil), ⟨_, f3, rfl, _, rfl⟩⟩
    · rw [off b hb] at q
      exact (I.hok b u q).stay (fun d v _ y => hk d v y) (fun d y => kp d _ y) fun d xs y => kp d _ y
def IsT (H : Hp) (h : Heap) (v : Value) (e : Str × Int) : Prop := ∃ (a : Addr) (k x : Value), v = .ref a ∧ H a = some (.tup [.str e.1, .int e.2]) ∧ h.get? a = some { cls := .type "tuple", data := .seq #[k, x] } ∧ RelV (.str e.1) k ∧ RelV (.int e.2) x
theorem isT_reads {H : Hp} {h : Heap} {v : Value} {e : Str × Int} (i : IsT H h v e) : ∃ as, Reads h v (encE e) as := by
  obtain ⟨a, k, x, rfl, _, ho, ⟨t, rfl⟩, ⟨t', rfl⟩⟩ := i
  exact ⟨_, Reads.tuple ho rfl rfl (.cons (Reads.str _ _) (.cons (Reads.int _ _) .nil))⟩
theorem isT_tups {H : Hp} {h : Heap} : ∀ {vs : List Value} {es : List (Str × Int)}, PySem.W.EachIs (IsT H h) vs es → ∃ ts : List Addr, vs = ts.map Value.ref ∧ TupsAt H ts es
  | _, _, .nil => ⟨[], rfl, .nil⟩
  | _, _, .cons ⟨a, k, x, e, hH, _⟩ r => by
    obtain ⟨ts, e2, T⟩ := isT_tups r
    exact ⟨a :: ts, by rw [e, e2]; rfl, .cons hH T⟩
theorem TupsAt.keep {H H' : Hp} (k : ∀ b o, H b = some o → H' b = some o) : ∀ {ts : List Addr} {es : List (Str × Int)}, TupsAt H ts es → TupsAt H' ts es
  | _, _, .nil => .nil
  | _, _, .cons h r => .cons (k _ _ h) (r.keep k)
theorem each_isT {H : Hp} {h : Heap} {P : Program} {w : World} {lo : Addr} : ∀ {as : List Addr} {es : List (Str × Int)} , as.length = es.length → (∀ (j : Nat) (a : Addr) (e : Str × Int), as[j]? = some a → es[j]? = some e → IsT H h (.ref a) e) → PySem.W.EachIs (IsT H h) (as.map Value.ref) es
  | [], [], _, _ => .nil
  | a :: as, e :: es, hl, hh => .cons (hh 0 a e rfl rfl) (each_isT (P := P) (w := w) (lo := lo) (by simpa using hl) fun j b f e1 e2 => hh (j + 1) b f (by simpa using e1) (by simpa using e2))
  | [], _ :: _, hl, _ => by simp at hl
  | _ :: _, [], hl, _ => by simp at hl
theorem call_sortIt (hcalm : X.calm = true) (hu : X.A.units + 64 < cLine) : CallR X (.builtin "sorted") rSortIt := by
  intro pins s σ H xs us Q I r q
  obtain ⟨r0, d, es, ex, hr, hd, hz, q⟩ := q
  subst ex
  obtain ⟨u, eu, rx⟩ := vals1 r
  subst eu
  cases rx
  obtain ⟨z, lo, vs, kv, hdo⟩ := I.hok d _ hd
  obtain ⟨ep, hat⟩ := hdo.dictAt
  have hv : s.heap.get? r0 = some { cls := .type "dict_items", data := .fields #[.ref d] } := (I.hok r0 _ hr).1
  have lk : (es.map kvE).length = vs.length := Paired.length kv
  have lk' : es.length = vs.length := by simpa using lk
  have h16 : es.length ≤ sizeLine := by rw [sizeLine_eq]; omega
  refine Calls.call_function_entry PyProof.Rows.kind_sorted PyProof.Rows.plain_sorted PyProof.Rows.entry_sorted (PyProof.Rows.args_sorted1 _) ?_
  unfold Builtin.«sorted»
  refine wpAny_bind (m := checkCount "sorted" 1 1 _) (wpAny_pure ?_)
  refine wpAny_bind (PySem.W.kdx_collect (A := X.A.in1) (knd := mixKind X.prog X.w) (kvs := vs) (ep := ep) (I.ok.hd hcalm) ⟨_, hv, rfl, rfl⟩ hat (by rw [← lk']; exact h16) fun h' tk as hk hl hG => ?_)
  obtain ⟨H1, k1, hP, I1⟩ := tups_laid (tk := tk) I kv hk hl hG
  have la : as.length = es.length := by rw [hl, lk']
  have eS : PySem.W.EachIs (IsT H1 h') (as.map Value.ref) es := each_isT (P := X.prog) (w := X.w) (lo := d) la fun j a e e1 e2 => by
    obtain ⟨pk, f2, f3⟩ := LiI.paired_get hP e1
    rw [List.getElem?_map, e2] at f2
    cases f2
    obtain ⟨key, k, x, g1, g2, g3⟩ := hG.pairs j a e1
    obtain ⟨qv, m1, m2, m3⟩ := LiI.paired_get kv (i := j) (x := kvE e) (by rw [List.getElem?_map, e2]; rfl)
    rw [g1] at m1
    cases m1
    refine ⟨a, key, x, rfl, f3, g3, ?_, m3⟩
    have := relV_key (show keyIs k key = true from g2)
    have m2' : k = (kvE e).1 := m2.symm
    rw [m2'] at this
    exact this
  have er : PySem.W.EachIs (fun v e => ∃ as, Reads h' v (encE e) as) (as.map Value.ref) es := eS.mono fun _ _ i => isT_reads i
  refine wpAny_bind (wpAny_newList ?_ (by rw [List.length_map, la]; exact h16))
  have hoL : (h'.push (seqObj "list" (as.map Value.ref).toArray 0)).get? h'.objs.size = some (seqObj "list" (as.map Value.ref).toArray 0) := Heap.get?_push_size _ rfl
  show wpAny _ _ _ _ _ { s with heap := h'.push (seqObj "list" (as.map Value.ref).toArray 0), toks := tk }
  refine wpAny_bind (wpAny_holding (wpAny_call_entry PyProof.Rows.slot_list_sort ⟨_, hoL, rfl⟩ PyProof.Rows.entry_list_sort
    (sort_tail (s1 := { s with heap := h', toks := tk }) encE eS er (PySem.W.AllAlike.of fun b b' => by simp [PySem.W.alike, PySem.W.alikeAll]) (PySem.W.Sortable.tuples fun b => ⟨_, _, rfl⟩) h16
      (fun b _ => by show X.A.in1.in1.units + (encE b).depth < cLine; simp only [encE, PyData.depth, PyData.depthAll]; show X.A.units + 1 + 1 + _ < cLine; omega) fun out' hlo heo => ⟨_, rfl, ?_⟩) (PyProof.Rows.args_list_sort _)))
  obtain ⟨e', he'⟩ := PyProof.Rows.sortedHeap_at (vs := as.map Value.ref) (out := out'.toArray) hoL
  obtain ⟨ts, et, T⟩ := isT_tups heo
  have hlen : (ts.map V.ref).length ≤ sizeLine := by
    have : out'.length = ts.length := by rw [et, List.length_map]
    rw [List.length_map, ← this, hlo]; exact h16
  have hfree : H1 h'.objs.size = none := I1.hok.fresh (Nat.le_refl _)
  refine wpAny_pure ⟨_, rfl, .ref h'.objs.size, upd H1 h'.objs.size (.lst (ts.map V.ref)), I1.laid (t' := tk) (fun b u e => ?_) (Nat.le_refl _)
    (show ObjOk X.prog X.w _ _ _ (.lst (ts.map V.ref)) from ⟨hlen, out', e', by rw [et]; exact LiI.vals_refs ts, he'⟩), rfl, ?_⟩
  · have hb : b < h'.objs.size := Heap.lt_size e
    rw [PyProof.Rows.sortedHeap_old (Nat.ne_of_lt hb) (by rw [size_push']; exact Nat.lt_succ_of_lt hb)]
    exact Heap.get?_push_of_some _ e
  · have kp : ∀ b o, H1 b = some o → upd H1 h'.objs.size (.lst (ts.map V.ref)) b = some o := fun b o e => by rw [upd_ne (ne_of_none e hfree)]; exact e
    refine q _ _ ts (fun b o e => kp b o (k1 b o e)) ?_ upd_same (T.keep kp)
    cases e : H h'.objs.size with
    | none => rfl
    | some o => rw [k1 _ _ e] at hfree; cases hfree
end
end BNQ
namespace BNQ
open PySem PySem.Spec PyProof.Rows L2
/-! ### a dict whose keys are tuples within tuples -/
section
variable {X : Cx} {pins : List (Addr × Obj)} {σ : L2.St} {H : Hp} {s : Shared}
mutual
theorem nested_is (I : Inv X pins σ H s) : ∀ (k : NestedKey) (v : V) (u : Value), Dp X.K H v k.data → RelV v u → NestedIs s.heap k u
  | .none, _, _, h, r => by
    simp only [NestedKey.data] at h
    cases h; cases r; exact .none
  | .num i, _, _, h, r => by
    simp only [NestedKey.data] at h
    cases h
    obtain ⟨t, rfl⟩ := r
    exact .int i t
  | .text x, _, _, h, r => by
    simp only [NestedKey.data] at h
    cases h
    obtain ⟨t, rfl⟩ := r
    exact .text x t
  | .tup ks, _, _, h, r => by
    simp only [NestedKey.data] at h
    cases h with
    | tup hs ha =>
      cases r
      obtain ⟨its, rv, ⟨o, ho, hc, n, hd⟩, _⟩ := I.tuple hs
      exact .tup ho hc hd (by simpa using nested_all I ks _ its ha rv)
theorem nested_all (I : Inv X pins σ H s) : ∀ (ks : List NestedKey) (vs : List V) (us : List Value), DpAll X.K H vs (NestedKey.datas ks) → Vals vs us → NestedAll s.heap ks us
  | [], _, _, h, r => by
    simp only [NestedKey.datas] at h
    cases h; cases r; exact .nil
  | k :: ks, _, _, h, r => by
    simp only [NestedKey.datas] at h
    cases h with
    | cons h1 h2 =>
      cases r with
      | cons r1 r2 => exact .cons (nested_is I k _ _ h1 r1) (nested_all I ks _ _ h2 r2)
end
end
abbrev NX := NestedKey × Addr × Value
def MetV (P : Program) (w : World) (d : Addr) (xs : List NX) : HO := .ext fun h => (d == sysModules) = false ∧ ∃ o es ep, h.get? d = some o ∧ o.ExactDict ∧ o.data = .dict es ep ∧ es.toList = xs.map (entryOfKey (nestedKind P w))
def isTupK : NestedKey → Prop
  | .tup _ => True
  | _ => False
structure MetAt (P : Program) (w : World) (K : PySem.W.Frag) (H : Hp) (d : Addr) (ks : List NestedKey) : Prop where
  ex : ∃ xs : List NX, xs.map (·.1) = ks ∧ (H d = some (MetV P w d xs) ∨ (xs = [] ∧ H d = some (.dK []))) ∧ ∀ x ∈ xs, Dp K H (.ref x.2.1) x.1.data ∧ x.1.depth ≤ 8
  nd : ks.Nodup
  len : ks.length ≤ 16000000
section
variable {X : Cx} {pins : List (Addr × Obj)} {σ : L2.St} {H : Hp} {s : Shared}
theorem met_keyed {d : Addr} {ks : List NestedKey} (I : Inv X pins σ H s) (M : MetAt X.prog X.w X.K H d ks) : ∃ xs : List NX, xs.map (·.1) = ks ∧ (H d = some (MetV X.prog X.w d xs) ∨ (xs = [] ∧ H d = some (.dK []))) ∧ (∀ x ∈ xs, Dp X.K H (.ref x.2.1) x.1.data ∧ x.1.depth ≤ 8) ∧
    (d == sysModules) = false ∧ s.heap.DictOfH (nestedKind X.prog X.w) d xs := by
  obtain ⟨xs, e, hh, hx⟩ := M.ex
  have nd := M.nd
  rw [← e] at nd
  refine ⟨xs, e, hh, hx, ?_⟩
  have is : ∀ x ∈ xs, (nestedKind X.prog X.w).is s.heap x.1 x.2.1 := fun x h => ⟨nested_is I x.1 (.ref x.2.1) _ (hx x h).1 rfl, (hx x h).2⟩
  rcases hh with hh | ⟨rfl, hh⟩
  · obtain ⟨lo, o, es, ep, h1, h2, h3, h4⟩ := (I.hok d _ hh).1
    exact ⟨lo, o, es, ep, h1, h2, h3, h4, is, nd⟩
  · obtain ⟨_, lo, vs, rel, o, es, ep, ho, he, hd, hk, hp, _⟩ := I.hok d _ hh
    cases rel
    have : es.toList = [] := List.eq_nil_of_length_eq_zero (by rw [hp.length]; rfl)
    exact ⟨lo, o, es, ep, ho, he, hd, by rw [this]; rfl, is, nd⟩
end
section
variable {X : Cx}
mutual
theorem tup_key : ∀ k : NestedKey, BN.tupD k.data = true
  | .none => by simp [NestedKey.data, BN.tupD]
  | .num i => by simp [NestedKey.data, BN.tupD]
  | .text x => by simp [NestedKey.data, BN.tupD]
  | .tup ks => by simp only [NestedKey.data, BN.tupD]; exact tup_keys ks
theorem tup_keys : ∀ ks : List NestedKey, BN.tupDs (NestedKey.datas ks) = true
  | [] => by simp [NestedKey.datas, BN.tupDs]
  | k :: ks => by simp only [NestedKey.datas, BN.tupDs, tup_key k, tup_keys ks]; rfl
end
theorem at_some {xs : List NX} {k : NestedKey} : (atKey xs k).isSome = decide (k ∈ xs.map (·.1)) := by
  unfold atKey
  rw [Option.isSome_map]
  by_cases h : k ∈ xs.map (·.1)
  · rw [decide_eq_true h]
    obtain ⟨x, hx, rfl⟩ := List.mem_map.mp h
    exact List.find?_isSome.mpr ⟨x, hx, decide_eq_true rfl⟩
  · rw [decide_eq_false h]
    have : (xs.find? fun x => decide (x.1 = k)) = none := List.find?_eq_none.mpr fun x hx e => h (List.mem_map.mpr ⟨x, hx, of_decide_eq_true e⟩)
    rw [this]; rfl
def rNotInMet (K : PySem.W.Frag) (P : Program) (w : World) : R2 := fun x y H Q => ∃ (a d : Addr) (k : NestedKey) (ks : List NestedKey), x = .ref a ∧ y = .ref d ∧ Dp K H x k.data ∧ k.depth ≤ 8 ∧ MetAt P w K H d ks ∧ Q (.bl (!decide (k ∈ ks))) H
theorem op_notInMet (hu : X.A.units + 64 < cLine) : OpR X (compareOp .NotIn) (rNotInMet X.K X.prog X.w) := by
  intro pins s σ H x y v u Q I rx ry h
  obtain ⟨a, d, k, ks, rfl, rfl, dk, hk, M, q⟩ := h
  cases rx
  cases ry
  obtain ⟨xs, e, hh, hx, lo, D⟩ := met_keyed I M
  refine notIn_keyed (knd := nestedKind X.prog X.w) (kvs := pairsH xs) (by show X.A.units + 1 + 8 < cLine; omega) ⟨nested_is I k (.ref a) _ dk rfl, hk⟩ lo ⟨xs, D, rfl⟩ ⟨.bl _, H, I.tok _, ?_, q⟩
  rw [valueAt_pairsH, Option.isSome_map, at_some, e]
  rfl
def sMPut (K : PySem.W.Frag) (P : Program) (w : World) (td ty tv : TE) : TS := fun D σ H => tv σ H fun v H1 => td σ H1 fun x H2 => ty σ H2 fun y H3 => ∃ (a d : Addr) (k : NestedKey) (ks : List NestedKey),
  x = .ref d ∧ y = .ref a ∧ Dp K H3 y k.data ∧ k.depth ≤ 8 ∧ MetAt P w K H3 d ks ∧ k ∉ ks ∧ ks.length + 1 ≤ 16000000 ∧ ∀ H', BN.Fr (BN.cI d) H3 H' → MetAt P w K H' d (ks ++ [k]) → D.nx σ H'
theorem ps_mput {o i value : Expr} {pos pos' : Pos} {td ty tv : TE} (hu : X.A.units + 64 < cLine) (ho : PE X o td) (hi : PE X i ty) (hv : PE X value tv) (hs : swapsWith value (some (.Subscript o i pos')) pos.line X.env = pure false) :
    PS X (.Assign [.Subscript o i pos'] value pos) (sMPut X.K X.prog X.w td ty tv) := by
  refine ⟨fun pins s σ H D I h => ?_⟩
  refine wpAny_Assign_Subscript (thn (hv.run pins s σ H _ I h) fun r s1 ⟨v, H1, I1, rv, q1⟩ => thn (ho.run pins s1 σ H1 _ I1 q1) fun u s2 ⟨x, H2, I2, rx, q2⟩ => thn (hi.run pins s2 σ H2 _ I2 q2) fun iv s3 ⟨y, H3, I3, ry, a, d, k, ks, ex, ey, dk, hk, M, nk, hl, q3⟩ => ?_) hs
  subst ex ey
  obtain rfl : u = Value.ref d := rx
  obtain rfl : iv = Value.ref a := ry
  obtain ⟨xs, e, hh, hx, lo, D'⟩ := met_keyed I3 M
  have lx : xs.length = ks.length := by rw [← e, List.length_map]
  have na : atKey xs k = none := by
    have := at_some (xs := xs) (k := k)
    rw [e, decide_eq_false nk] at this
    cases q : atKey xs k with
    | none => rfl
    | some p => rw [q] at this; cases this
  refine wpAny_setItem_heap (hsz := by rw [lx, sizeLine_eq]; omega) (knd := nestedKind X.prog X.w) (by show X.A.units + 1 + 8 < cLine; omega) ⟨nested_is I3 k (.ref a) _ dk rfl, hk⟩ D' fun h' hm' hs' => ?_
  rw [storedH_new na] at hm'
  have mu : Mut (H3 d) := by rcases hh with hh | ⟨_, hh⟩ <;> (rw [hh]; exact trivial)
  obtain ⟨o, es, ep, h1, h2, h3, h4, h5, h6⟩ := hm'
  have loc : (d == sysModules) = false ∧ ∃ o es ep, h'.get? d = some o ∧ o.ExactDict ∧ o.data = .dict es ep ∧ es.toList = (xs ++ [(k, a, r)]).map (entryOfKey (nestedKind X.prog X.w)) := ⟨lo, o, es, ep, h1, h2, h3, h4⟩
  have I4 := d_write (t' := s3.toks + k.draws) (ob := MetV X.prog X.w d (xs ++ [(k, a, r)])) I3 mu hs' ⟨o, h1⟩
    (show ObjOk X.prog X.w _ _ _ (MetV X.prog X.w d (xs ++ [(k, a, r)])) from ⟨loc, ⟨o, h1⟩, fun g1 g2 ⟨l, o', es', ep', a1, a2⟩ kk => ⟨l, o', es', ep', kk _ a1, a2⟩⟩)
  have fr : BN.Fr (BN.cI d) H3 (upd H3 d (MetV X.prog X.w d (xs ++ [(k, a, r)]))) := by
    rcases hh with hh | ⟨_, hh⟩
    · exact BN.Fr.setI hh trivial
    · exact BN.Fr.setI hh trivial
  refine ⟨σ, _, I4, q3 _ fr ⟨⟨xs ++ [(k, a, r)], by rw [List.map_append, e]; rfl, .inl upd_same, fun x hx' => ?_⟩, ?_, by rw [List.length_append]; exact hl⟩⟩
  · rcases List.mem_append.mp hx' with z | z
    · exact ⟨BN.Dp.fr fr _ _ (tup_key _) (hx x z).1, (hx x z).2⟩
    · rw [List.mem_singleton.mp z]
      exact ⟨BN.Dp.fr fr _ _ (tup_key _) dk, hk⟩
  · exact List.nodup_append.mpr ⟨M.nd, by simp, fun x hx' y hy => by rw [List.mem_singleton.mp hy]; exact fun z => nk (z ▸ hx')⟩
end
end BNQ
namespace BN
open PySem L2 PyProof.Rows
/-! ### places, ways of calling, what is seen -/
abbrev BF := Str → Option Int
def putB (F : BF) (x : Str) (n : Int) : BF := fun y => if y = x then some n else F y
def putsB (F : BF) (ps : List Str) (n : Int) : BF := fun y => if y ∈ ps then some n else F y
structure FB where
  n : Nat
  f : Str
  ps : List Str
  b : Part
  r : Part
  near : BF
structure Plc where
  n : Nat
  p : Part
  near : BF
  fe : List FB
abbrev Conf := Plc × BF
mutual
def plc : Part → Nat → BF → List FB → List Plc
  | .num m, n, E, fe => [⟨n, .num m, E, fe⟩]
  | .name x, n, E, fe => [⟨n, .name x, E, fe⟩]
  | .add a b, n, E, fe => ⟨n, .add a b, E, fe⟩ :: (plc a (n + 1) E fe ++ plc b (n + 1 + a.size) E fe)
  | .less a b, n, E, fe => ⟨n, .less a b, E, fe⟩ :: (plc a (n + 1) E fe ++ plc b (n + 1 + a.size) E fe)
  | .ite c a b, n, E, fe => ⟨n, .ite c a b, E, fe⟩ :: (plc c (n + 1) E fe ++ (plc a (n + 1 + c.size) E fe ++ plc b (n + 1 + c.size + a.size) E fe))
  | .say a, n, E, fe => ⟨n, .say a, E, fe⟩ :: plc a (n + 1) E fe
  | .lt x a b, n, E, fe => ⟨n, .lt x a b, E, fe⟩ :: (plc a (n + 1) E fe ++ plc b (n + 1 + a.size) (putB E x n) fe)
  | .fn f ps b r, n, E, fe => ⟨n, .fn f ps b r, E, fe⟩ :: (plc b (n + 1) (putsB E ps n) fe ++ plc r (n + 1 + b.size) E (⟨n, f, ps, b, r, E⟩ :: fe))
  | .call f as, n, E, fe => ⟨n, .call f as, E, fe⟩ :: plcs as (n + 1) E fe
def plcs : Parts → Nat → BF → List FB → List Plc
  | .nil, _, _, _ => []
  | .cons p r, n, E, fe => plc p n E fe ++ plcs r (n + p.size) E fe
end
theorem rng_app (n a b : Nat) : List.range' n a ++ List.range' (n + a) b = List.range' n (a + b) := by
  have := List.range'_append (s := n) (m := a) (n := b) (step := 1)
  simpa using this
theorem rng_cons (n a : Nat) : n :: List.range' (n + 1) a = List.range' n (1 + a) := by rw [Nat.add_comm 1 a]; rfl
mutual
theorem plc_num : ∀ (p : Part) (n : Nat) (E : BF) (fe : List FB), (plc p n E fe).map (·.n) = List.range' n p.size
  | .num m, n, E, fe => by simp [plc, Part.size]
  | .name x, n, E, fe => by simp [plc, Part.size]
  | .add a b, n, E, fe => by simp only [plc, List.map_cons, List.map_append, plc_num, rng_app, rng_cons, Part.size]
  | .less a b, n, E, fe => by simp only [plc, List.map_cons, List.map_append, plc_num, rng_app, rng_cons, Part.size]
  | .ite c a b, n, E, fe => by simp only [plc, List.map_cons, List.map_append, plc_num, rng_app, rng_cons, Part.size]
  | .say a, n, E, fe => by simp only [plc, List.map_cons, plc_num, rng_cons, Part.size]
  | .lt x a b, n, E, fe => by simp only [plc, List.map_cons, List.map_append, plc_num, rng_app, rng_cons, Part.size]
  | .fn f ps b r, n, E, fe => by simp only [plc, List.map_cons, List.map_append, plc_num, rng_app, rng_cons, Part.size]
  | .call f as, n, E, fe => by simp only [plc, List.map_cons, plcs_num, rng_cons, Part.size]
theorem plcs_num : ∀ (as : Parts) (n : Nat) (E : BF) (fe : List FB), (plcs as n E fe).map (·.n) = List.range' n as.size
  | .nil, n, E, fe => by simp [plcs, Parts.size]
  | .cons p r, n, E, fe => by simp only [plcs, List.map_append, plc_num, plcs_num, rng_app, Parts.size]
end
theorem plc_head (p : Part) (n : Nat) (E : BF) (fe : List FB) : (⟨n, p, E, fe⟩ : Plc) ∈ plc p n E fe := by cases p <;> simp [plc]
abbrev TT' := Nat → Option Plc
def Reg (T : TT') (p : Part) (n : Nat) (E : BF) (fe : List FB) : Prop := ∀ q ∈ plc p n E fe, T q.n = some q
def RegS (T : TT') (as : Parts) (n : Nat) (E : BF) (fe : List FB) : Prop := ∀ q ∈ plcs as n E fe, T q.n = some q
theorem Reg.self {T : TT'} {p : Part} {n : Nat} {E : BF} {fe : List FB} (R : Reg T p n E fe) : T n = some ⟨n, p, E, fe⟩ := R _ (plc_head p n E fe)
def EnvR (T : TT') : List FB → Prop
  | [] => True
  | e :: t => T e.n = some ⟨e.n, .fn e.f e.ps e.b e.r, e.near, t⟩ ∧ Reg T e.b (e.n + 1) (putsB e.near e.ps e.n) t ∧ EnvR T t
def tab (l : List Plc) : TT' := fun n => l.find? fun q => q.n == n
theorem tab_reg : ∀ {l : List Plc}, (l.map (·.n)).Nodup → ∀ q ∈ l, tab l q.n = some q
  | [], _, q, h => by simp at h
  | a :: l, nd, q, h => by
    rw [List.map_cons, List.nodup_cons] at nd
    unfold tab
    rw [List.find?_cons]
    rcases List.mem_cons.mp h with rfl | h
    · simp
    · have ne : (a.n == q.n) = false := by
        simp only [beq_eq_false_iff_ne]
        exact fun z => nd.1 (z ▸ List.mem_map.mpr ⟨q, h, rfl⟩)
      rw [ne]
      exact tab_reg nd.2 q h
theorem reg_root (p : Part) (n : Nat) (E : BF) (fe : List FB) : Reg (tab (plc p n E fe)) p n E fe := tab_reg (by rw [plc_num]; exact List.nodup_range' ..)
def findB : List FB → Str → Option (FB × List FB)
  | [], _ => none
  | e :: t, f => if e.f = f then some (e, t) else findB t f
def argC : Parts → Nat → BF → List FB → BF → List Conf
  | .nil, _, _, _, _ => []
  | .cons p r, n, E, fe, F => (⟨n, p, E, fe⟩, F) :: argC r (n + p.size) E fe F
def bodyC (e : FB) (t : List FB) (F : BF) : Conf := (⟨e.n + 1, e.b, putsB e.near e.ps e.n, t⟩, putsB F e.ps e.n)
def callC (fe : List FB) (f : Str) (F : BF) : List Conf := match findB fe f with
  | some (e, t) => [bodyC e t F]
  | none => []
def succs : Conf → List Conf
  | (⟨_, .num _, _, _⟩, _) => []
  | (⟨_, .name _, _, _⟩, _) => []
  | (⟨n, .add a b, E, fe⟩, F) => [(⟨n + 1, a, E, fe⟩, F), (⟨n + 1 + a.size, b, E, fe⟩, F)]
  | (⟨n, .less a b, E, fe⟩, F) => [(⟨n + 1, a, E, fe⟩, F), (⟨n + 1 + a.size, b, E, fe⟩, F)]
  | (⟨n, .ite c a b, E, fe⟩, F) => [(⟨n + 1, c, E, fe⟩, F), (⟨n + 1 + c.size, a, E, fe⟩, F), (⟨n + 1 + c.size + a.size, b, E, fe⟩, F)]
  | (⟨n, .say a, E, fe⟩, F) => [(⟨n + 1, a, E, fe⟩, F)]
  | (⟨n, .lt x a b, E, fe⟩, F) => [(⟨n + 1, a, E, fe⟩, F), (⟨n + 1 + a.size, b, putB E x n, fe⟩, putB F x n)]
  | (⟨n, .fn f ps b r, E, fe⟩, F) => [(⟨n + 1 + b.size, r, E, ⟨n, f, ps, b, r, E⟩ :: fe⟩, F)]
  | (⟨n, .call f as, E, fe⟩, F) => argC as (n + 1) E fe F ++ callC fe f F
inductive Rch (c : Conf) : Conf → Prop
  | base : Rch c c
  | step {k s : Conf} : Rch c k → s ∈ succs k → Rch c s
theorem Rch.trans {c d : Conf} (h : Rch c d) : ∀ {k : Conf}, Rch d k → Rch c k := fun r => by
  induction r with
  | base => exact h
  | step _ m ih => exact .step ih m
theorem closed_all {c : Conf} {vis : List Conf} (h : c ∈ vis) (cl : ∀ k ∈ vis, ∀ s ∈ succs k, s ∈ vis) {k : Conf} (r : Rch c k) : k ∈ vis := by
  induction r with
  | base => exact h
  | step _ m ih => exact cl _ ih _ m
/-! ### what is told of readings -/
abbrev Rec := Nat × Int × Int
def recC : Conf → List Rec
  | (⟨n, .name x, E, _⟩, F) => [(n, (E x).getD 0, (F x).getD 0)]
  | _ => []
def recsOf (vis : List Conf) : List Rec := vis.flatMap recC
theorem recsOf_app (a b : List Conf) : recsOf (a ++ b) = recsOf a ++ recsOf b := List.flatMap_append
def VReg (T : TT') (vis : List Conf) : Prop := ∀ k ∈ vis, T k.1.n = some k.1
theorem rec_inv {k : Conf} {r : Rec} (h : r ∈ recC k) : ∃ x, k.1.p = .name x ∧ r = (k.1.n, (k.1.near x).getD 0, (k.2 x).getD 0) := by
  obtain ⟨⟨n, p, E, fe⟩, F⟩ := k
  cases p <;> simp [recC] at h
  subst h
  exact ⟨_, rfl, rfl⟩
theorem near_fun {T : TT'} {vis : List Conf} (V : VReg T vis) {m : Nat} {v v' c c' : Int} (h : (m, v, c) ∈ recsOf vis) (h' : (m, v', c') ∈ recsOf vis) : v = v' := by
  obtain ⟨k, hk, r⟩ := List.mem_flatMap.mp h
  obtain ⟨k', hk', r'⟩ := List.mem_flatMap.mp h'
  obtain ⟨x, e1, e2⟩ := rec_inv r
  obtain ⟨x', e1', e2'⟩ := rec_inv r'
  have t := V k hk
  have t' := V k' hk'
  have em : m = k.1.n := (Prod.mk.inj e2).1
  have em' : m = k'.1.n := (Prod.mk.inj e2').1
  rw [← em] at t
  rw [← em'] at t'
  rw [t] at t'
  have e : k.1 = k'.1 := Option.some.inj t'
  rw [e, e1'] at e1
  have ex : x' = x := by cases e1; rfl
  have e3 := (Prod.mk.inj (Prod.mk.inj e2).2).1
  have e3' := (Prod.mk.inj (Prod.mk.inj e2').2).1
  rw [e3, e3', e, ex]
/-! ### the rows told -/
abbrev BRow := Nat × Int × List Int
structure IsRows (V : Rec → Prop) (rows : List BRow) : Prop where
  asc : (rows.map (·.1)).Pairwise (· < ·)
  nums : ∀ m, m ∈ rows.map (·.1) ↔ ∃ v c, V (m, v, c)
  near : ∀ m v cs, (m, v, cs) ∈ rows → ∃ c, V (m, v, c)
  cs : ∀ m v cs, (m, v, cs) ∈ rows → cs.Pairwise (· < ·) ∧ ∀ c, c ∈ cs ↔ ∃ v', V (m, v', c)
theorem asc_uniq {α : Type} {lt : α → α → Prop} (irr : ∀ x, ¬ lt x x) (as : ∀ x y, lt x y → ¬ lt y x) : ∀ {l m : List α}, l.Pairwise lt → m.Pairwise lt → (∀ x, x ∈ l ↔ x ∈ m) → l = m
  | [], [], _, _, _ => rfl
  | [], b :: m, _, _, h => by have := (h b).mpr (by simp); simp at this
  | a :: l, [], _, _, h => by have := (h a).mp (by simp); simp at this
  | a :: l, b :: m, hl, hm, h => by
    obtain ⟨h1, h2⟩ := List.pairwise_cons.mp hl
    obtain ⟨h3, h4⟩ := List.pairwise_cons.mp hm
    have e : a = b := by
      rcases List.mem_cons.mp ((h a).mp (by simp)) with e | e
      · exact e
      · rcases List.mem_cons.mp ((h b).mpr (by simp)) with q | q
        · exact q.symm
        · exact absurd (h3 a e) (as _ _ (h1 b q))
    subst e
    refine congrArg _ (asc_uniq irr as h2 h4 fun x => ⟨fun hx => ?_, fun hx => ?_⟩)
    · rcases List.mem_cons.mp ((h x).mp (List.mem_cons_of_mem _ hx)) with e | e
      · subst e; exact absurd (h1 x hx) (irr x)
      · exact e
    · rcases List.mem_cons.mp ((h x).mpr (List.mem_cons_of_mem _ hx)) with e | e
      · subst e; exact absurd (h3 x hx) (irr x)
      · exact e
theorem rows_uniq {V : Rec → Prop} (fn : ∀ m v v' c c', V (m, v, c) → V (m, v', c') → v = v') {a b : List BRow} (ha : IsRows V a) (hb : IsRows V b) : a = b := by
  have en : a.map (·.1) = b.map (·.1) := asc_uniq (lt := (· < ·)) (fun x => Nat.lt_irrefl x) (fun x y h => by omega) ha.asc hb.asc fun m => by rw [ha.nums, hb.nums]
  have hl : a.length = b.length := by have := congrArg List.length en; simpa using this
  refine List.ext_getElem? fun i => ?_
  cases q : a[i]? with
  | none => rw [List.getElem?_eq_none_iff] at q; rw [List.getElem?_eq_none (by omega)]
  | some r =>
    obtain ⟨m, v, cs⟩ := r
    have li := at_lt q
    obtain ⟨r', q'⟩ := get_lt (l := b) (i := i) (by omega)
    obtain ⟨m', v', cs'⟩ := r'
    have e1 : (a.map (·.1))[i]? = some m := by rw [List.getElem?_map, q]; rfl
    have e2 : (b.map (·.1))[i]? = some m' := by rw [List.getElem?_map, q']; rfl
    rw [en, e2] at e1
    have em : m' = m := Option.some.inj e1
    subst em
    have h1 := List.mem_of_getElem? q
    have h2 := List.mem_of_getElem? q'
    obtain ⟨c1, n1⟩ := ha.near _ _ _ h1
    obtain ⟨c2, n2⟩ := hb.near _ _ _ h2
    have ev := fn _ _ _ _ _ n1 n2
    subst ev
    obtain ⟨p1, s1⟩ := ha.cs _ _ _ h1
    obtain ⟨p2, s2⟩ := hb.cs _ _ _ h2
    have ec : cs = cs' := asc_uniq (lt := (· < ·)) (fun x => Int.lt_irrefl x) (fun x y h => by omega) p1 p2 fun c => by rw [s1, s2]
    rw [q', ec]
end BN
namespace BN
open PySem L2 PyProof.Rows
/-! ### tuples of any kind, the one behind the other -/
theorem catA_run {K : PySem.W.Frag} {H : Hp} {a b : Addr} {xs ys : List V} {Q : VK} (ha : SqT K H a xs) (hb : SqT K H b ys) (hl : xs.length + ys.length ≤ 200000) (q : ∀ c H', Fr c0 H H' → SqT K H' c (xs ++ ys) → Q (.ref c) H') : rCatA K (.ref a) (.ref b) H Q := by
  refine ⟨a, b, xs, ys, rfl, rfl, ha, hb, Nat.le_of_lt (Nat.lt_of_le_of_lt hl (by rw [sizeLine_eq]; decide)), fun hx => ?_, fun _ hy => ?_, fun _ _ c hc => ?_⟩
  · exact q b H (Fr.refl _) (by rw [hx]; exact hb)
  · exact q a H (Fr.refl _) (by rw [hy, List.append_nil]; exact ha)
  · exact q c _ (Fr.new hc) (SqT.of upd_same)
end BN
namespace BN
open PySem L2 PyProof.Rows
open BNQ (kvE srtE encE)
/-! ### dicts of binders -/
abbrev BRel (kvs : List (Key × V)) (F : BF) : Prop := ∀ x : Str, valV kvs (Sum.inr x) = (F x).map V.int
theorem BRel.put {kvs : List (Key × V)} {F : BF} (h : BRel kvs F) (x : Str) (n : Int) : BRel (putK kvs (Sum.inr x) (.int n)) (putB F x n) := fun g => by
  rw [valV_put]
  unfold putB
  by_cases e : g = x
  · subst e; simp
  · rw [if_neg (by simpa using e), if_neg e]; exact h g
def putE (E : List (Str × Int)) (x : Str) (n : Int) : List (Str × Int) := if x ∈ E.map (·.1) then E.map (fun e => if e.1 = x then (e.1, n) else e) else E ++ [(x, n)]
theorem any_kvE (E : List (Str × Int)) (x : Str) : ((E.map kvE).any fun kv => decide (kv.1 = Sum.inr x)) = decide (x ∈ E.map (·.1)) := by
  induction E with
  | nil => simp
  | cons a r ih =>
    rw [List.map_cons, List.any_cons, ih]
    by_cases e : a.1 = x
    · simp [e]
    · have : ¬ x = a.1 := fun z => e z.symm
      simp [kvE, e, this]
theorem putK_kvE (E : List (Str × Int)) (x : Str) (n : Int) : putK (E.map kvE) (Sum.inr x) (.int n) = (putE E x n).map kvE := by
  unfold putK putE
  rw [any_kvE]
  by_cases h : x ∈ E.map (·.1)
  · rw [if_pos (decide_eq_true h), if_pos h, List.map_map, List.map_map]
    refine List.map_congr_left fun e he => ?_
    by_cases q : e.1 = x
    · simp [kvE, q]
    · simp [kvE, q]
  · rw [if_neg (by rw [decide_eq_false h]; exact Bool.false_ne_true), if_neg h, List.map_append]; rfl
theorem putE_keys (E : List (Str × Int)) (x : Str) (n : Int) : (putE E x n).map (·.1) = if x ∈ E.map (·.1) then E.map (·.1) else E.map (·.1) ++ [x] := by
  unfold putE
  split
  · rw [List.map_map]
    refine List.map_congr_left fun e he => ?_
    simp only [Function.comp]
    split <;> simp
  · rw [List.map_append]; rfl
theorem putE_nodup {E : List (Str × Int)} (h : (E.map (·.1)).Nodup) (x : Str) (n : Int) : ((putE E x n).map (·.1)).Nodup := by
  rw [putE_keys]
  split
  · exact h
  · rename_i q
    exact List.nodup_append.mpr ⟨h, by simp, fun a ha b hb => by rw [List.mem_singleton.mp hb]; exact fun z => q (z ▸ ha)⟩
theorem putE_len (E : List (Str × Int)) (x : Str) (n : Int) : (putE E x n).length ≤ E.length + 1 := by
  have := congrArg List.length (putE_keys E x n)
  rw [List.length_map] at this
  rw [this]
  split
  · rw [List.length_map]; omega
  · rw [List.length_append, List.length_map]; exact Nat.le_refl _
theorem valV_kvE : ∀ {E : List (Str × Int)}, (E.map (·.1)).Nodup → ∀ x n, valV (E.map kvE) (Sum.inr x) = some (.int n) ↔ (x, n) ∈ E
  | [], _, x, n => by simp [valV]
  | (y, m) :: E, nd, x, n => by
    rw [List.map_cons, List.nodup_cons] at nd
    rw [List.map_cons]
    by_cases e : y = x
    · subst e
      rw [valV_pos rfl]
      refine ⟨fun h => ?_, fun h => ?_⟩
      · have : m = n := V.int.inj (Option.some.inj h)
        subst this; simp
      · rcases List.mem_cons.mp h with z | z
        · cases z; rfl
        · exact absurd (List.mem_map.mpr ⟨_, z, rfl⟩) nd.1
    · rw [valV_neg (by simpa [kvE] using e), valV_kvE nd.2]
      refine ⟨fun h => List.mem_cons_of_mem _ h, fun h => ?_⟩
      rcases List.mem_cons.mp h with z | z
      · cases z; exact absurd rfl e
      · exact z
structure BdAt (H : Hp) (a : Addr) (F : BF) (m : Nat) : Prop where
  ex : ∃ E : List (Str × Int), H a = some (.dK (E.map kvE)) ∧ (E.map (·.1)).Nodup ∧ BRel (E.map kvE) F ∧ E.length ≤ m
theorem BdAt.fr {C : CP} {H H' : Hp} {a : Addr} {F : BF} {m : Nat} (hC : ∀ kvs, ¬ C a (.dK kvs)) (f : Fr C H H') (B : BdAt H a F m) : BdAt H' a F m := by
  obtain ⟨E, h, r⟩ := B.ex
  exact ⟨E, f.at h (hC _), r⟩
theorem BdAt.mono {H : Hp} {a : Addr} {F : BF} {m m' : Nat} (B : BdAt H a F m) (h : m ≤ m') : BdAt H a F m' := by
  obtain ⟨E, h1, h2, h3, h4⟩ := B.ex
  exact ⟨E, h1, h2, h3, Nat.le_trans h4 h⟩
def IsSrt (L : List (Str × Int)) (F : BF) : Prop := ∃ E : List (Str × Int), (E.map (·.1)).Nodup ∧ BRel (E.map kvE) F ∧ L = srtE E
theorem IsSrt.mem {L : List (Str × Int)} {F : BF} (h : IsSrt L F) (x : Str) (n : Int) : F x = some n ↔ (x, n) ∈ L := by
  obtain ⟨E, nd, r, rfl⟩ := h
  have p : (srtE E).Perm E := List.mergeSort_perm _ _
  rw [p.mem_iff, ← valV_kvE nd, r x]
  constructor
  · intro h; rw [h]; rfl
  · intro h
    cases q : F x with
    | none => rw [q] at h; cases h
    | some m => rw [q] at h; cases h; rfl
theorem IsSrt.uniq {L : List (Str × Int)} {F F' : BF} (h : IsSrt L F) (h' : IsSrt L F') : F = F' := by
  funext x
  cases q : F x with
  | none =>
    cases q' : F' x with
    | none => rfl
    | some n =>
      have := (h.mem x n).mpr ((h'.mem x n).mp q')
      rw [q] at this; cases this
  | some n => exact ((h'.mem x n).mpr ((h.mem x n).mp q)).symm
/-! ### with_one -/
def spWith1 : Sp := fun vs H Q _ => ∃ (a : Addr) (x : Str) (n : Int) (F : BF) (m : Nat), vs = [.ref a, .str x, .int n] ∧ BdAt H a F m ∧ m ≤ 100000 ∧
  ∀ p H', Fr c0 H H' → H p = none → BdAt H' p (putB F x n) (m + 1) → Q (.ref p) H'
def t_with1 (K : PySem.W.Frag) : TS :=
  (tSeq (tAsg (tCB rDictD (tCons (tVar 0) tNil)) (gName 3))
    (tSeq (sDPut (tVar 3) (tVar 1) (tVar 2))
    (tRet (tVar 3))))
theorem pure_with1 {K : PySem.W.Frag} (vs : List V) (H : Hp) (Q : VK) (E : XK) (h : spWith1 vs H Q E) : t_with1 K { nx := fun _ H' => Q .non H', rt := Q } (start ["bound", "name", "number", "found"] vs) H := by
  obtain ⟨a, x, n, F, m, rfl, B, hm, k⟩ := h
  obtain ⟨D, hD, nd, rel, hl⟩ := B.ex
  refine ⟨_, rfl, a, _, rfl, .inl hD, fun p hp => ?_⟩
  refine ⟨_, rfl, _, rfl, _, rfl, p, _, rfl, DPut.k (k := Sum.inr x) upd_same (Nat.lt_of_le_of_lt (m := 100000) (by rw [List.length_map]; omega) (by rw [sizeLine_eq]; decide)), ?_⟩
  refine ⟨_, rfl, k p _ ((Fr.new hp).fresh hp) hp ⟨putE D x n, ?_, putE_nodup nd x n, ?_, Nat.le_trans (putE_len D x n) (by omega)⟩⟩
  · rw [upd_same, putK_kvE]
  · rw [← putK_kvE]; exact rel.put x n
end BN
namespace BN
open PySem L2 PyProof.Rows
/-! ### dicts by number -/
def kvL (L : List (Nat × V)) : List (Key × V) := L.map fun e => (Sum.inl (e.1 : Int), e.2)
def putL (L : List (Nat × V)) (k : Nat) (v : V) : List (Nat × V) := if k ∈ L.map (·.1) then L.map (fun e => if e.1 = k then (e.1, v) else e) else L ++ [(k, v)]
theorem any_kvL (L : List (Nat × V)) (k : Nat) : ((kvL L).any fun kv => decide (kv.1 = Sum.inl (k : Int))) = decide (k ∈ L.map (·.1)) := by
  unfold kvL
  induction L with
  | nil => simp
  | cons a r ih =>
    rw [List.map_cons, List.any_cons, ih]
    by_cases e : a.1 = k
    · simp [e]
    · have h1 : ¬ k = a.1 := fun z => e z.symm
      have h2 : ¬ (a.1 : Int) = (k : Int) := fun z => e (by omega)
      simp [h1, h2]
theorem putK_kvL (L : List (Nat × V)) (k : Nat) (v : V) : putK (kvL L) (Sum.inl (k : Int)) v = kvL (putL L k v) := by
  unfold putK putL
  rw [any_kvL]
  by_cases h : k ∈ L.map (·.1)
  · rw [if_pos (decide_eq_true h), if_pos h]
    unfold kvL
    rw [List.map_map, List.map_map]
    refine List.map_congr_left fun e he => ?_
    by_cases q : e.1 = k
    · simp [q]
    · have h2 : ¬ (e.1 : Int) = (k : Int) := fun z => q (by omega)
      simp [q, h2]
  · rw [if_neg (by rw [decide_eq_false h]; exact Bool.false_ne_true), if_neg h]
    unfold kvL
    rw [List.map_append]; rfl
theorem putL_keys (L : List (Nat × V)) (k : Nat) (v : V) : (putL L k v).map (·.1) = if k ∈ L.map (·.1) then L.map (·.1) else L.map (·.1) ++ [k] := by
  unfold putL
  split
  · rw [List.map_map]
    refine List.map_congr_left fun e he => ?_
    simp only [Function.comp]
    split <;> simp
  · rw [List.map_append]; rfl
theorem putL_nodup {L : List (Nat × V)} (h : (L.map (·.1)).Nodup) (k : Nat) (v : V) : ((putL L k v).map (·.1)).Nodup := by
  rw [putL_keys]
  split
  · exact h
  · rename_i q
    exact List.nodup_append.mpr ⟨h, by simp, fun a ha b hb => by rw [List.mem_singleton.mp hb]; exact fun z => q (z ▸ ha)⟩
theorem putL_mem_keys (L : List (Nat × V)) (k : Nat) (v : V) (j : Nat) : j ∈ (putL L k v).map (·.1) ↔ j = k ∨ j ∈ L.map (·.1) := by
  rw [putL_keys]
  split
  · rename_i q
    exact ⟨.inr, fun h => h.elim (fun e => e ▸ q) id⟩
  · rw [List.mem_append, List.mem_singleton]; exact Or.comm
theorem putL_mem {L : List (Nat × V)} (nd : (L.map (·.1)).Nodup) (k : Nat) (v : V) (j : Nat) (u : V) : (j, u) ∈ putL L k v ↔ (j = k ∧ u = v) ∨ (j ≠ k ∧ (j, u) ∈ L) := by
  unfold putL
  split
  · rename_i q
    constructor
    · intro h
      obtain ⟨e, he, e2⟩ := List.mem_map.mp h
      by_cases z : e.1 = k
      · rw [if_pos z] at e2; cases e2; exact .inl ⟨z, rfl⟩
      · rw [if_neg z] at e2; subst e2; exact .inr ⟨z, he⟩
    · rintro (⟨rfl, rfl⟩ | ⟨h1, h2⟩)
      · obtain ⟨e, he, rfl⟩ := List.mem_map.mp q
        exact List.mem_map.mpr ⟨e, he, by rw [if_pos rfl]⟩
      · exact List.mem_map.mpr ⟨_, h2, by rw [if_neg h1]⟩
  · rename_i q
    rw [List.mem_append, List.mem_singleton]
    constructor
    · rintro (h | h)
      · exact .inr ⟨fun z => q (List.mem_map.mpr ⟨_, h, z⟩), h⟩
      · cases h; exact .inl ⟨rfl, rfl⟩
    · rintro (⟨rfl, rfl⟩ | ⟨h1, h2⟩)
      · exact .inr rfl
      · exact .inl h2
theorem valV_kvL : ∀ {L : List (Nat × V)}, (L.map (·.1)).Nodup → ∀ (k : Nat) (u : V), valV (kvL L) (Sum.inl (k : Int)) = some u ↔ (k, u) ∈ L
  | [], _, x, n => by simp [valV, kvL]
  | (y, m) :: L, nd, x, n => by
    rw [List.map_cons, List.nodup_cons] at nd
    have ih := valV_kvL nd.2 x n
    unfold kvL at ih ⊢
    rw [List.map_cons]
    by_cases e : y = x
    · subst e
      rw [valV_pos rfl]
      refine ⟨fun h => ?_, fun h => ?_⟩
      · have : m = n := Option.some.inj h
        subst this; simp
      · rcases List.mem_cons.mp h with z | z
        · cases z; rfl
        · exact absurd (List.mem_map.mpr ⟨_, z, rfl⟩) nd.1
    · rw [valV_neg (by simp only [ne_eq, Sum.inl.injEq]; omega), ih]
      refine ⟨fun h => List.mem_cons_of_mem _ h, fun h => ?_⟩
      rcases List.mem_cons.mp h with z | z
      · cases z; exact absurd rfl e
      · exact z
theorem kvL_keys (L : List (Nat × V)) : (kvL L).map (·.1) = (L.map fun e => ((e.1 : Nat) : Int)).map Sum.inl := by
  unfold kvL
  rw [List.map_map, List.map_map]; rfl
theorem nodup_lt : ∀ (N : Nat) {l : List Nat}, l.Nodup → (∀ x ∈ l, x < N) → l.length ≤ N := fun N l nd h => by
  have := BNS.nodup_sub (ks := List.range N) nd fun k hk => List.mem_range.mpr (h k hk)
  simpa using this
theorem few_rng {l : List Int} (h : ∀ x ∈ l, -1 ≤ x ∧ x < 200) : BNS.Few l := fun L nd m => by
  have := BNS.nodup_sub (L := L) (ks := (List.range 201).map fun (k : Nat) => (k : Int) - 1) nd fun k hk => by
    have := h k (m k hk)
    exact List.mem_map.mpr ⟨(k + 1).toNat, List.mem_range.mpr (by omega), by omega⟩
  simp at this
  omega
/-! ### what is seen, on the heap -/
def cD (D : Addr → Prop) : CP := fun a _ => D a
structure NearAt (H : Hp) (nd : Addr) (R : List Rec) : Prop where
  ex : ∃ L : List (Nat × V), H nd = some (.dK (kvL L)) ∧ (L.map (·.1)).Nodup ∧ ∀ m u, (m, u) ∈ L ↔ ∃ v c, u = .int v ∧ (m, v, c) ∈ R
structure MayAt (D : Addr → Prop) (H : Hp) (md : Addr) (R : List Rec) : Prop where
  ex : ∃ L : List (Nat × V), H md = some (.dK (kvL L)) ∧ (L.map (·.1)).Nodup ∧ (∀ m, m ∈ L.map (·.1) ↔ ∃ v c, (m, v, c) ∈ R) ∧
    ∀ m u, (m, u) ∈ L → ∃ (a : Addr) (cs : List Int), u = .ref a ∧ ¬ D a ∧ H a = some (.lst (cs.map V.int)) ∧ cs.Pairwise (· < ·) ∧ ∀ c, c ∈ cs ↔ ∃ v, (m, v, c) ∈ R
theorem NearAt.fr {C : CP} {H H' : Hp} {nd : Addr} {R : List Rec} (hC : ∀ kvs, ¬ C nd (.dK kvs)) (f : Fr C H H') (N : NearAt H nd R) : NearAt H' nd R := by
  obtain ⟨L, h, r⟩ := N.ex
  exact ⟨L, f.at h (hC _), r⟩
theorem MayAt.fr {C : CP} {D : Addr → Prop} {H H' : Hp} {md : Addr} {R : List Rec} (hM : ∀ kvs, ¬ C md (.dK kvs)) (hC : ∀ a xs, C a (.lst xs) → D a) (f : Fr C H H') (M : MayAt D H md R) : MayAt D H' md R := by
  obtain ⟨L, h, nd, r, q⟩ := M.ex
  refine ⟨L, f.at h (hM _), nd, r, fun m u hm => ?_⟩
  obtain ⟨a, cs, e, n, ha, z⟩ := q m u hm
  exact ⟨a, cs, e, n, f.at ha (fun z => n (hC _ _ z)), z⟩
def RecOk (R : List Rec) : Prop := ∀ m v c, (m, v, c) ∈ R → m < 200 ∧ -1 ≤ c ∧ c < 200
/-! ### the Looker: made, a reading -/
def flL (nd md kd : Addr) : List (Str × V) := [("near", .ref nd), ("may", .ref md), ("met", .ref kd)]
theorem flL2 (b r : V) : putF "may" r [(("near" : Str), b)] = [(("near" : Str), b), ("may", r)] := by
  show (if ("near" : Str) = "may" then _ else _) = _
  rw [if_neg (by decide +kernel)]; rfl
theorem flL3 (b r s : V) : putF "met" s [(("near" : Str), b), ("may", r)] = [(("near" : Str), b), ("may", r), ("met", s)] := by
  show (if ("near" : Str) = "met" then _ else (("near" : Str), b) :: (if ("may" : Str) = "met" then _ else _)) = _
  rw [if_neg (by decide +kernel), if_neg (by decide +kernel)]; rfl
theorem flL_near (a b c : Addr) : (flL a b c).lookup ("near" : Str) = some (.ref a) := by simp [flL, List.lookup]
theorem flL_may (a b c : Addr) : (flL a b c).lookup ("may" : Str) = some (.ref b) := by
  have e : (("may" : Str) == "near") = false := by decide +kernel
  simp [flL, List.lookup, e]
theorem flL_met (a b c : Addr) : (flL a b c).lookup ("met" : Str) = some (.ref c) := by
  have e : (("met" : Str) == "near") = false := by decide +kernel
  have e2 : (("met" : Str) == "may") = false := by decide +kernel
  simp [flL, List.lookup, e, e2]
theorem flL_no (a b c : Addr) {m : Str} (h1 : (m == ("near" : Str)) = false) (h2 : (m == ("may" : Str)) = false) (h3 : (m == ("met" : Str)) = false) : (flL a b c).lookup m = none := by
  simp only [flL, List.lookup, h1, h2, h3]
structure LkC (K : PySem.W.Frag) (C : Addr) : Prop where
  cl : Cls K C
  nN : NoAttr K C "near"
  nM : NoAttr K C "may"
  nK : NoAttr K C "met"
def spLkInit (C : Addr) : Sp := fun vs H Q _ => ∃ (p dx : Addr), vs = [.ref p] ∧ H p = some (.ins C dx []) ∧
  ∀ (nd md kd : Addr) (H' : Hp), H nd = none → H md = none → H kd = none → nd ≠ md → nd ≠ kd → md ≠ kd → Fr (cI p) H H' → H' p = some (.ins C dx (flL nd md kd)) → H' nd = some (.dK []) → H' md = some (.dK []) → H' kd = some (.dK []) → Q .non H'
def t_lkinit (K : PySem.W.Frag) : TS :=
  (tSeq (sFld K (tVar 0) tDNewK "near")
    (tSeq (sFld K (tVar 0) tDNewK "may")
    (sFld K (tVar 0) tDNewK "met")))
theorem pure_lkinit {K : PySem.W.Frag} {C : Addr} (T : LkC K C) (vs : List V) (H : Hp) (Q : VK) (E : XK) (h : spLkInit C vs H Q E) : t_lkinit K { nx := fun _ H' => Q .non H', rt := Q } (start ["self"] vs) H := by
  obtain ⟨p, dx, rfl, hp, k⟩ := h
  intro nd hnd
  have n1 : p ≠ nd := ne_of_none hp hnd
  have f1 : Fr (cI p) H (upd H nd (.dK [])) := Fr.new hnd
  have hp1 : (upd H nd (.dK [])) p = some (.ins C dx []) := by rw [upd_ne n1]; exact hp
  have hn1 : (upd H nd (.dK [])) nd = some (.dK []) := upd_same
  refine ⟨_, rfl, p, C, dx, [], rfl, hp1, T.cl, T.nN, (by show 0 < 1000; decide), ?_⟩
  have f2 := f1.trans (Fr.setO (o' := .ins C dx (putF "near" (.ref nd) [])) hp1)
  have hp2 : (upd (upd H nd (.dK [])) p (.ins C dx (putF "near" (.ref nd) []))) p = some (.ins C dx [("near", .ref nd)]) := upd_same
  have hn2 : (upd (upd H nd (.dK [])) p (.ins C dx (putF "near" (.ref nd) []))) nd = some (.dK []) := by rw [upd_ne n1.symm]; exact hn1
  generalize (upd (upd H nd (.dK [])) p (.ins C dx (putF "near" (.ref nd) []))) = H2 at f2 hp2 hn2 ⊢
  intro md hmd
  have n2 : p ≠ md := ne_of_none hp2 hmd
  have n3 : nd ≠ md := ne_of_none hn2 hmd
  have f3 := f2.trans (Fr.new (o := .dK []) hmd)
  have hp3 : (upd H2 md (.dK [])) p = some (.ins C dx [("near", .ref nd)]) := by rw [upd_ne n2]; exact hp2
  have hn3 : (upd H2 md (.dK [])) nd = some (.dK []) := by rw [upd_ne n3]; exact hn2
  refine ⟨_, rfl, p, C, dx, _, rfl, hp3, T.cl, T.nM, (by show 1 < 1000; decide), ?_⟩
  rw [flL2]
  have f4 := f3.trans (Fr.setO (o' := .ins C dx [("near", .ref nd), ("may", .ref md)]) hp3)
  have hp4 : (upd (upd H2 md (.dK [])) p (.ins C dx [("near", .ref nd), ("may", .ref md)])) p = some (.ins C dx [("near", .ref nd), ("may", .ref md)]) := upd_same
  have hn4 : (upd (upd H2 md (.dK [])) p (.ins C dx [("near", .ref nd), ("may", .ref md)])) nd = some (.dK []) := by rw [upd_ne n1.symm]; exact hn3
  have hm4 : (upd (upd H2 md (.dK [])) p (.ins C dx [("near", .ref nd), ("may", .ref md)])) md = some (.dK []) := by rw [upd_ne n2.symm]; exact upd_same
  have fmd := f2.free _ hmd
  generalize (upd (upd H2 md (.dK [])) p (.ins C dx [("near", .ref nd), ("may", .ref md)])) = H4 at f4 hp4 hn4 hm4 ⊢
  intro kd hkd
  have n4 : p ≠ kd := ne_of_none hp4 hkd
  have n5 : nd ≠ kd := ne_of_none hn4 hkd
  have n6 : md ≠ kd := ne_of_none hm4 hkd
  have hp5 : (upd H4 kd (.dK [])) p = some (.ins C dx [("near", .ref nd), ("may", .ref md)]) := by rw [upd_ne n4]; exact hp4
  refine ⟨_, rfl, p, C, dx, _, rfl, hp5, T.cl, T.nK, (by show 2 < 1000; decide), ?_⟩
  rw [flL3]
  refine k nd md kd _ hnd fmd (f4.free _ hkd) n3 n5 n6 ((f4.trans (Fr.new (o := .dK []) hkd)).trans (Fr.setO hp5)) upd_same ?_ ?_ ?_
  · rw [upd_ne n1.symm, upd_ne n5]; exact hn4
  · rw [upd_ne n2.symm, upd_ne n6]; exact hm4
  · rw [upd_ne n4.symm]; exact upd_same
end BN
namespace BN
open PySem L2 PyProof.Rows
/-! ### a reading seen -/
abbrev D2 (nd md : Addr) : Addr → Prop := fun a => a = nd ∨ a = md
abbrev D3 (nd md kd : Addr) : Addr → Prop := fun a => a = nd ∨ a = md ∨ a = kd
def spSee (K : PySem.W.Frag) (C : Addr) : Sp := fun vs H Q _ => ∃ (p dx nd md kd : Addr) (num : Nat) (v c : Int) (R : List Rec), vs = [.ref p, .int num, .int v, .int c] ∧ H p = some (.ins C dx (flL nd md kd)) ∧ nd ≠ md ∧
  NearAt H nd R ∧ MayAt (D3 nd md kd) H md R ∧ RecOk R ∧ num < 200 ∧ -1 ≤ c ∧ c < 200 ∧ (∀ v' c', (num, v', c') ∈ R → v' = v) ∧ (∃ o, H kd = some o) ∧
  ∀ H', Fr (cD (D2 nd md)) H H' → NearAt H' nd (R ++ [(num, v, c)]) → MayAt (D3 nd md kd) H' md (R ++ [(num, v, c)]) → Q .non H'
theorem mem_snoc {R : List Rec} {m num : Nat} {v c v' c' : Int} : (m, v', c') ∈ R ++ [(num, v, c)] ↔ (m, v', c') ∈ R ∨ (m = num ∧ v' = v ∧ c' = c) := by
  rw [List.mem_append, List.mem_singleton]
  constructor
  · rintro (h | h)
    · exact .inl h
    · cases h; exact .inr ⟨rfl, rfl, rfl⟩
  · rintro (h | ⟨rfl, rfl, rfl⟩)
    · exact .inl h
    · exact .inr rfl
def t_see (K : PySem.W.Frag) (P : Program) (w : World) : TS :=
  (tSeq (sDPut (tFld K (tVar 0) "near") (tVar 1) (tVar 2))
    (tSeq (tAsg (tDGet2 (tFld K (tVar 0) "may") (tVar 1) (tLst tNil)) (gName 4))
    (sDPut (tFld K (tVar 0) "may") (tVar 1) (tCB (BNQ.rSortSI P w) (tCons (tCB (BNS.rSetI2 K P w) (tCons (tOp rCat (tVar 4) (tLst (tCons (tVar 3) tNil))) tNil)) tNil)))))
theorem pure_see {K : PySem.W.Frag} {P : Program} {w : World} {C : Addr} (T : LkC K C) (vs : List V) (H : Hp) (Q : VK) (E : XK) (h : spSee K C vs H Q E) : t_see K P w { nx := fun _ H' => Q .non H', rt := Q } (start ["self", "number", "near", "called", "some"] vs) H := by
  obtain ⟨p, dx, nd, md, kd, num, v, c, R, rfl, hp, nnm, N, M, RO, hn, c1, c2, fn, ⟨ok, hkd⟩, k⟩ := h
  obtain ⟨L, hL, ndL, mL⟩ := N.ex
  obtain ⟨L2, hL2, ndL2, kL2, mL2⟩ := M.ex
  have lL : (kvL L).length ≤ 200 := by
    have := nodup_lt 200 ndL fun x hx => by
      obtain ⟨⟨m, u⟩, he, rfl⟩ := List.mem_map.mp hx
      obtain ⟨v', c', _, q⟩ := (mL m u).mp he
      exact (RO _ _ _ q).1
    unfold kvL
    simpa using this
  have lL2 : (kvL L2).length ≤ 200 := by
    have := nodup_lt 200 ndL2 fun x hx => by
      obtain ⟨v', c', q⟩ := (kL2 x).mp hx
      exact (RO _ _ _ q).1
    unfold kvL
    simpa using this
  have npd : p ≠ nd := ne_of hp hL (by simp)
  have npm : p ≠ md := ne_of hp hL2 (by simp)
  refine ⟨_, rfl, _, rfl, p, C, dx, _, _, rfl, hp, T.cl, T.nN, flL_near _ _ _, _, rfl, nd, _, rfl, DPut.k (k := Sum.inl (num : Int)) hL (Nat.lt_of_le_of_lt lL (by rw [sizeLine_eq]; decide)), ?_⟩
  rw [putK_kvL]
  have f1 : Fr (cD (D2 nd md)) H (upd H nd (.dK (kvL (putL L num (.int v))))) := Fr.set hL (.inl rfl) trivial
  have hp1 : (upd H nd (.dK (kvL (putL L num (.int v))))) p = some (.ins C dx (flL nd md kd)) := by rw [upd_ne npd]; exact hp
  have hm1 : (upd H nd (.dK (kvL (putL L num (.int v))))) md = some (.dK (kvL L2)) := by rw [upd_ne nnm.symm]; exact hL2
  have hn1 : (upd H nd (.dK (kvL (putL L num (.int v))))) nd = some (.dK (kvL (putL L num (.int v)))) := upd_same
  have old : ∀ a xs, H a = some (.lst xs) → (upd H nd (.dK (kvL (putL L num (.int v))))) a = some (.lst xs) := fun a xs e => by rw [upd_ne (ne_of e hL (by simp))]; exact e
  have N1 : NearAt (upd H nd (.dK (kvL (putL L num (.int v))))) nd (R ++ [(num, v, c)]) := ⟨putL L num (.int v), hn1, putL_nodup ndL _ _, fun m u => by
    rw [putL_mem ndL]
    constructor
    · rintro (⟨rfl, rfl⟩ | ⟨h1, h2⟩)
      · exact ⟨v, c, rfl, mem_snoc.mpr (.inr ⟨rfl, rfl, rfl⟩)⟩
      · obtain ⟨v', c', e, q⟩ := (mL m u).mp h2
        exact ⟨v', c', e, mem_snoc.mpr (.inl q)⟩
    · rintro ⟨v', c', rfl, q⟩
      by_cases e : m = num
      · subst e
        rcases mem_snoc.mp q with q | ⟨_, rfl, _⟩
        · rw [fn _ _ q]; exact .inl ⟨rfl, rfl⟩
        · exact .inl ⟨rfl, rfl⟩
      · rcases mem_snoc.mp q with q | ⟨z, _, _⟩
        · exact .inr ⟨e, (mL m _).mpr ⟨v', c', rfl, q⟩⟩
        · exact absurd z e⟩
  generalize (upd H nd (.dK (kvL (putL L num (.int v))))) = H1 at f1 hp1 hm1 hn1 old N1 ⊢
  have ml : ∀ m u, (m, u) ∈ L2 → ∃ (a : Addr) (cs : List Int), u = .ref a ∧ ¬ D3 nd md kd a ∧ H1 a = some (.lst (cs.map V.int)) ∧ cs.Pairwise (· < ·) ∧ ∀ c, c ∈ cs ↔ ∃ v, (m, v, c) ∈ R := fun m u hm => by
    obtain ⟨a, cs, e, n, ha, z⟩ := mL2 m u hm
    exact ⟨a, cs, e, n, old _ _ ha, z⟩
  refine ⟨_, rfl, p, C, dx, _, _, rfl, hp1, T.cl, T.nM, flL_may _ _ _, md, rfl, .inl ⟨_, .inl hm1⟩, _, rfl, one_sz (Nat.le_of_ble_eq_true rfl), fun em hem => ⟨valV (kvL L2) (Sum.inl (num : Int)), DGet.k (k := Sum.inl (num : Int)) (kvs := kvL L2) (show (upd H1 em (.lst [])) md = some (.dK (kvL L2)) by rw [upd_ne (ne_of_none hm1 hem)]; exact hm1), ?_⟩⟩
  have f2 : Fr (cD (D2 nd md)) H1 (upd H1 em (.lst [])) := Fr.new hem
  have some_ : ∃ (sa : Addr) (cs : List Int), (valV (kvL L2) (Sum.inl (num : Int))).getD (.ref em) = .ref sa ∧ (upd H1 em (.lst [])) sa = some (.lst (cs.map V.int)) ∧ cs.Pairwise (· < ·) ∧ ∀ c, c ∈ cs ↔ ∃ v, (num, v, c) ∈ R := by
    cases q : valV (kvL L2) (Sum.inl (num : Int)) with
    | none =>
      refine ⟨em, [], rfl, upd_same, List.Pairwise.nil, fun c' => ⟨fun z => by simp at z, fun ⟨v', z⟩ => ?_⟩⟩
      obtain ⟨⟨m, u⟩, he, e⟩ := List.mem_map.mp ((kL2 num).mpr ⟨v', c', z⟩)
      have e : m = num := e
      subst e
      rw [(valV_kvL ndL2 m u).mpr he] at q; cases q
    | some u =>
      obtain ⟨a, cs, rfl, _, ha, hp', hc⟩ := ml num u ((valV_kvL ndL2 num u).mp q)
      exact ⟨a, cs, rfl, by rw [upd_ne (ne_of_none ha hem)]; exact ha, hp', hc⟩
  obtain ⟨sa, cs, es, hsa, pcs, hcs⟩ := some_
  rw [es]
  have hp2 : (upd H1 em (.lst [])) p = some (.ins C dx (flL nd md kd)) := by rw [upd_ne (ne_of_none hp1 hem)]; exact hp1
  have hm2 : (upd H1 em (.lst [])) md = some (.dK (kvL L2)) := by rw [upd_ne (ne_of_none hm1 hem)]; exact hm1
  have ml2 : ∀ m u, (m, u) ∈ L2 → ∃ (a : Addr) (cs : List Int), u = .ref a ∧ ¬ D3 nd md kd a ∧ (upd H1 em (.lst [])) a = some (.lst (cs.map V.int)) ∧ cs.Pairwise (· < ·) ∧ ∀ c, c ∈ cs ↔ ∃ v, (m, v, c) ∈ R := fun m u hm => by
    obtain ⟨a, cs, e, n, ha, z⟩ := ml m u hm
    exact ⟨a, cs, e, n, by rw [upd_ne (ne_of_none ha hem)]; exact ha, z⟩
  have N2 := N1.fr (C := c0) (fun _ z => z) (Fr.new (o := .lst []) hem)
  generalize (upd H1 em (.lst [])) = H2 at f2 hsa hp2 hm2 ml2 N2 ⊢
  have f12 := f1.trans f2
  have nk0 : ∀ y, H2 y = none → y ≠ kd := fun y e z => by
    have := f12.free _ e
    rw [z, hkd] at this; cases this
  have rcs : ∀ x ∈ cs ++ [c], -1 ≤ x ∧ x < 200 := fun x hx => by
    rcases List.mem_append.mp hx with z | z
    · obtain ⟨v', q⟩ := (hcs x).mp z
      exact (RO _ _ _ q).2
    · rw [List.mem_singleton.mp z]; exact ⟨c1, c2⟩
  have lcs : cs.length ≤ 4000 := few_rng (l := cs) (fun x hx => rcs x (List.mem_append_left _ hx)) cs (pcs.imp fun h => by omega) fun k hk => hk
  refine ⟨_, rfl, _, rfl, one_sz (Nat.le_of_ble_eq_true rfl), fun l2 hl2 => ?_⟩
  have g1 : Fr c0 H2 (upd H2 l2 (.lst [.int c])) := Fr.new hl2
  refine ⟨sa, l2, _, _, rfl, rfl, by rw [upd_ne (ne_of_none hsa hl2)]; exact hsa, upd_same, Nat.le_trans (m := 4001) (by rw [List.length_map]; show cs.length + 1 ≤ 4001; omega) (by rw [sizeLine_eq]; decide), fun q hq => ?_⟩
  have g2 := g1.trans (Fr.new (o := .lst (cs.map V.int ++ [.int c])) hq)
  have hq2 : (upd (upd H2 l2 (.lst [.int c])) q (.lst (cs.map V.int ++ [.int c]))) q = some (.lst ((cs ++ [c]).map V.int)) := by rw [upd_same, List.map_append]; rfl
  generalize (upd (upd H2 l2 (.lst [.int c])) q (.lst (cs.map V.int ++ [.int c]))) = H3 at g2 hq2 ⊢
  refine ⟨q, cs ++ [c], rfl, .inl (SqL.of hq2), few_rng rcs, fun s hs => ?_⟩
  have g3 := g2.trans (Fr.new (o := BNS.SetIO P w s (cs ++ [c])) hs)
  have hs3 : (upd H3 s (BNS.SetIO P w s (cs ++ [c]))) s = some (BNS.SetIO P w s (cs ++ [c])) := upd_same
  generalize (upd H3 s (BNS.SetIO P w s (cs ++ [c]))) = H4 at g3 hs3 ⊢
  refine ⟨s, _, rfl, hs3, fun ys y0 asc mem hy0 => ?_⟩
  have g4 := g3.trans (Fr.new (o := .lst (ys.map V.int)) hy0)
  have hy4 : (upd H4 y0 (.lst (ys.map V.int))) y0 = some (.lst (ys.map V.int)) := upd_same
  have n4 : H2 y0 = none := g3.free _ hy0
  generalize (upd H4 y0 (.lst (ys.map V.int))) = H5 at g4 hy4 ⊢
  have hm5 := g4.at hm2 (fun z => z)
  have hn5 := N2.fr (C := c0) (fun _ z => z) g4
  refine ⟨_, rfl, p, C, dx, _, _, rfl, g4.at hp2 (fun z => z), T.cl, T.nM, flL_may _ _ _, _, rfl, md, _, rfl, DPut.k (k := Sum.inl (num : Int)) hm5 (Nat.lt_of_le_of_lt lL2 (by rw [sizeLine_eq]; decide)), ?_⟩
  rw [putK_kvL]
  have f6 : Fr (cD (D2 nd md)) H5 (upd H5 md (.dK (kvL (putL L2 num (.ref y0))))) := Fr.set hm5 (.inr rfl) trivial
  refine k _ ((f12.trans g4.of0).trans f6) (hn5.fr (C := fun a _ => a = md) (fun _ z => nnm z) (Fr.set hm5 rfl trivial)) ⟨putL L2 num (.ref y0), upd_same, putL_nodup ndL2 _ _, fun m => ?_, fun m u hm => ?_⟩
  · rw [putL_mem_keys, kL2]
    constructor
    · rintro (rfl | ⟨v', c', q⟩)
      · exact ⟨v, c, mem_snoc.mpr (.inr ⟨rfl, rfl, rfl⟩)⟩
      · exact ⟨v', c', mem_snoc.mpr (.inl q)⟩
    · rintro ⟨v', c', q⟩
      rcases mem_snoc.mp q with q | ⟨rfl, _, _⟩
      · exact .inr ⟨v', c', q⟩
      · exact .inl rfl
  · have ns : ∀ a xs, H5 a = some (.lst xs) → (upd H5 md (.dK (kvL (putL L2 num (.ref y0))))) a = some (.lst xs) := fun a xs e => by rw [upd_ne (ne_of e hm5 (by simp))]; exact e
    rcases (putL_mem ndL2 _ _ _ _).mp hm with ⟨rfl, rfl⟩ | ⟨h1, h2⟩
    · refine ⟨y0, ys, rfl, fun z => ?_, ns _ _ hy4, asc, fun x => ?_⟩
      · obtain ⟨L', hN', _⟩ := N2.ex
        rcases z with z | z | z
        · rw [z, hN'] at n4; cases n4
        · rw [z, hm2] at n4; cases n4
        · exact nk0 y0 n4 z
      · rw [mem, List.mem_append, List.mem_singleton, hcs]
        constructor
        · rintro (⟨v', q⟩ | rfl)
          · exact ⟨v', mem_snoc.mpr (.inl q)⟩
          · exact ⟨v, mem_snoc.mpr (.inr ⟨rfl, rfl, rfl⟩)⟩
        · rintro ⟨v', q⟩
          rcases mem_snoc.mp q with q | ⟨_, _, rfl⟩
          · exact .inl ⟨v', q⟩
          · exact .inr rfl
    · obtain ⟨a, cs', e, n, ha, z, zz⟩ := ml2 m u h2
      refine ⟨a, cs', e, n, ns _ _ (g4.at ha (fun z => z)), z, fun x => ?_⟩
      rw [zz]
      constructor
      · rintro ⟨v', q⟩; exact ⟨v', mem_snoc.mpr (.inl q)⟩
      · rintro ⟨v', q⟩
        rcases mem_snoc.mp q with q | ⟨e, _, _⟩
        · exact ⟨v', q⟩
        · exact absurd e h1
end BN
namespace BN
open PySem L2 PyProof.Rows
open BNQ (kvE srtE TupsAt MetAt)
/-! ### functions by number -/
def arB : List FB → FE0
  | [] => fun _ => none
  | e :: t => putN (arB t) e.f e.ps.length
def dlB : List FB → Str → Nat
  | [] => fun _ => 0
  | e :: t => putD (dlB t) e.f (e.b.dpt (dlB t))
def vsB : List FB → Str → Nat
  | [] => fun _ => 0
  | e :: t => putD (vsB t) e.f (e.b.vst (vsB t))
def dom (F : BF) (ns : List Str) : Prop := ∀ x ∈ ns, (F x).isSome = true
theorem dom.put {F : BF} {ns : List Str} (h : dom F ns) (x : Str) (n : Int) : dom (putB F x n) (ns ++ [x]) := fun y hy => by
  unfold putB
  split
  · rfl
  · rename_i q
    rcases List.mem_append.mp hy with z | z
    · exact h y z
    · exact absurd (List.mem_singleton.mp z) q
theorem dom.puts {F : BF} {ns : List Str} (h : dom F ns) (ps : List Str) (n : Int) : dom (putsB F ps n) (ns ++ ps) := fun y hy => by
  unfold putsB
  split
  · rfl
  · rename_i q
    rcases List.mem_append.mp hy with z | z
    · exact h y z
    · exact absurd z q
def EOkB : List FB → BF → Prop
  | [], _ => True
  | e :: t, F => EOkB t F ∧ ∃ ns, dom F ns ∧ dom e.near ns ∧ e.b.ok (ns ++ e.ps) (arB t) ∧ e.ps.length ≤ 12 ∧ t.length + e.b.dpt (dlB t) ≤ 1000 ∧ e.b.wid ≤ 1000 ∧ e.b.dep ≤ 20 ∧ e.n + 1 + e.b.size ≤ 200
theorem EOkB.mono : ∀ {fe : List FB} {F F' : BF}, EOkB fe F → (∀ x, (F x).isSome = true → (F' x).isSome = true) → EOkB fe F'
  | [], _, _, _, _ => trivial
  | e :: t, F, F', h, k => ⟨EOkB.mono h.1 k, h.2.imp fun ns q => ⟨fun x hx => k x (q.1 x hx), q.2⟩⟩
theorem putB_some {F : BF} {x : Str} {n : Int} (y : Str) (h : (F y).isSome = true) : (putB F x n y).isSome = true := by
  unfold putB; split
  · rfl
  · exact h
theorem putsB_some {F : BF} {ps : List Str} {n : Int} (y : Str) (h : (F y).isSome = true) : (putsB F ps n y).isSome = true := by
  unfold putsB; split
  · rfl
  · exact h
theorem env_atB : ∀ {fe : List FB} {f : Str} {n : Nat} {F : BF}, arB fe f = some n → EOkB fe F → ∃ (e : FB) (t l : List FB), fe = l ++ e :: t ∧ e.f = f ∧ (∀ x ∈ l, x.f ≠ f) ∧ e.ps.length = n ∧ EOkB (e :: t) F ∧ dlB fe f = e.b.dpt (dlB t) ∧ vsB fe f = e.b.vst (vsB t) ∧
    findB fe f = some (e, t)
  | [], f, n, F, h, _ => by simp [arB] at h
  | e :: t, f, n, F, h, E => by
    by_cases q : f = e.f
    · subst q
      refine ⟨e, t, [], rfl, rfl, fun _ z => by simp at z, ?_, E, by simp [dlB, putD], by simp [vsB, putD], by simp [findB]⟩
      simpa [arB, putN] using h
    · have h' : arB t f = some n := by simpa [arB, putN, q] using h
      obtain ⟨e', t', l, rfl, h1, h2, h3, h4, h5, h6, h7⟩ := env_atB h' E.1
      have q' : ¬ e.f = f := fun z => q z.symm
      refine ⟨e', t', e :: l, rfl, h1, fun x hx => ?_, h3, h4, by simpa [dlB, putD, q] using h5, by simpa [vsB, putD, q] using h6, by simpa [findB, q'] using h7⟩
      rcases List.mem_cons.mp hx with rfl | hx
      · exact q'
      · exact h2 x hx
theorem EnvR.tail {T : TT'} : ∀ {l : List FB} {t : List FB}, EnvR T (l ++ t) → EnvR T t
  | [], _, h => h
  | _ :: l, _, h => EnvR.tail (l := l) h.2.2
abbrev bdN (d : Nat) : Nat := 50000 - 13 * d
def FunsB (D : Addr → Prop) (K : PySem.W.Frag) (H : Hp) : Addr → List FB → Prop
  | a, [] => H a = some (.dK []) ∧ ¬ D a
  | a, e :: t => ∃ (kn tt nd : Addr) (vp : V) (kvs : List (Key × V)), FunsB D K H kn t ∧ H kn = some (.dK kvs) ∧ H a = some (.dK (putK kvs (Sum.inr e.f) (.ref tt))) ∧ ¬ D a ∧ SqT K H tt [.int e.n, vp, .ref nd, .ref kn] ∧ Dp K H vp (Part.fn e.f e.ps e.b e.r).enc ∧
      BdAt H nd e.near (bdN (1 + e.b.dpt (dlB t))) ∧ ¬ D nd
section
variable {D : Addr → Prop} {K : PySem.W.Frag} {H H' : Hp} {C : CP}
theorem FunsB.no : ∀ {fe : List FB} {a : Addr}, FunsB D K H a fe → ¬ D a
  | [], _, h => h.2
  | _ :: _, _, ⟨_, _, _, _, _, _, _, _, h, _⟩ => h
theorem FunsB.fr (hC : ∀ c kvs, C c (.dK kvs) → D c) (f : Fr C H H') : ∀ {fe : List FB} {a : Addr}, FunsB D K H a fe → FunsB D K H' a fe
  | [], a, h => ⟨f.at h.1 fun z => h.2 (hC _ _ z), h.2⟩
  | e :: t, a, h => by
    obtain ⟨kn, tt, nd, vp, kvs, h1, h2, h3, h4, h5, h6, h7, h8⟩ := h
    exact ⟨kn, tt, nd, vp, kvs, FunsB.fr hC f h1, f.at h2 (fun z => h1.no (hC _ _ z)), f.at h3 (fun z => h4 (hC _ _ z)), h4, f.sqT h5, Dp.fr f _ _ (tup_enc _) h6, h7.fr (fun _ z => h8 (hC _ _ z)) f, h8⟩
theorem FunsB.dict : ∀ {fe : List FB} {a : Addr}, FunsB D K H a fe → ∃ kvs, H a = some (.dK kvs) ∧ kvs.length ≤ fe.length
  | [], a, h => ⟨[], h.1, Nat.le_refl _⟩
  | e :: t, a, h => by
    obtain ⟨kn, tt, nd, vp, kvs, h1, h2, h3, _⟩ := h
    obtain ⟨kvs', g1, g2⟩ := FunsB.dict h1
    rw [h2] at g1
    cases g1
    have := putK_le kvs (Sum.inr e.f) (.ref tt)
    exact ⟨_, h3, by rw [List.length_cons]; omega⟩
theorem FunsB.get : ∀ {l : List FB} {e : FB} {t : List FB} {a : Addr}, FunsB D K H a (l ++ e :: t) → (∀ x ∈ l, x.f ≠ e.f) → ∃ (kvs : List (Key × V)) (kn tt nd : Addr) (vp : V), H a = some (.dK kvs) ∧ valV kvs (Sum.inr e.f) = some (.ref tt) ∧ FunsB D K H kn t ∧
    SqT K H tt [.int e.n, vp, .ref nd, .ref kn] ∧ Dp K H vp (Part.fn e.f e.ps e.b e.r).enc ∧ BdAt H nd e.near (bdN (1 + e.b.dpt (dlB t))) ∧ ¬ D nd
  | [], e, t, a, h, _ => by
    obtain ⟨kn, tt, nd, vp, kvs, h1, h2, h3, h4, h5, h6, h7, h8⟩ := h
    exact ⟨_, kn, tt, nd, vp, h3, by rw [valV_put, if_pos rfl], h1, h5, h6, h7, h8⟩
  | x :: l, e, t, a, h, hl => by
    obtain ⟨kn, tt, nd, vp, kvs, h1, h2, h3, h4, h5, h6, h7, h8⟩ := h
    obtain ⟨kvs', kn', tt', nd', vp', g1, g2, g3⟩ := FunsB.get h1 fun y hy => hl y (List.mem_cons_of_mem _ hy)
    rw [h2] at g1
    cases g1
    refine ⟨_, kn', tt', nd', vp', h3, ?_, g3⟩
    rw [valV_put, if_neg (by simpa using fun z => hl x (by simp) z.symm)]
    exact g2
end
structure GOk (T : TT') (n : Nat) (pt : Part) (num : Nat) (E F : BF) (fe : List FB) (ns : List Str) (m : Nat) : Prop where
  ok : pt.ok ns (arB fe)
  dE : dom E ns
  dF : dom F ns
  env : EOkB fe F
  dp : pt.dpt (dlB fe) ≤ n
  d1 : pt.dpt (dlB fe) ≤ 1000
  fl : fe.length + pt.dpt (dlB fe) ≤ 1000
  wid : pt.wid ≤ 1000
  dep : pt.dep ≤ 20
  sz : num + pt.size ≤ 200
  rg : ∀ x v, F x = some v → -1 ≤ v ∧ v < 200
  reg : Reg T pt num E fe
  ereg : EnvR T fe
  cst : m + pt.vst (vsB fe) ≤ 15000000
structure GAt (D : Addr → Prop) (K : PySem.W.Frag) (H : Hp) (v : V) (ae ac af : Addr) (pt : Part) (E F : BF) (fe : List FB) : Prop where
  v : Dp K H v pt.enc
  e : BdAt H ae E (bdN (pt.dpt (dlB fe)))
  ne : ¬ D ae
  c : BdAt H ac F (bdN (pt.dpt (dlB fe)))
  nc : ¬ D ac
  f : FunsB D K H af fe
theorem GAt.fr {D : Addr → Prop} {K : PySem.W.Frag} {H H' : Hp} {v : V} {ae ac af : Addr} {pt : Part} {E F : BF} {fe : List FB} {C : CP} (W : GAt D K H v ae ac af pt E F fe) (hC : ∀ c kvs, C c (.dK kvs) → D c) (f : Fr C H H') : GAt D K H' v ae ac af pt E F fe :=
  ⟨Dp.fr f _ _ (tup_enc pt) W.v, W.e.fr (fun _ z => W.ne (hC _ _ z)) f, W.ne, W.c.fr (fun _ z => W.nc (hC _ _ z)) f, W.nc, W.f.fr hC f⟩
/-! ### what has been visited -/
def keyB (n : Int) (L1 L2 : List (Str × Int)) : NestedKey := .tup [.num n, .tup (L1.map fun e => .tup [.text e.1, .num e.2]), .tup (L2.map fun e => .tup [.text e.1, .num e.2])]
structure GoInv (T : TT') (vis : List Conf) (ks : List NestedKey) (pd : List Conf) : Prop where
  reg : VReg T vis
  rok : RecOk (recsOf vis)
  met : ∀ k ∈ ks, ∃ (e : FB) (t : List FB) (F : BF) (L1 L2 : List (Str × Int)), k = keyB e.n L1 L2 ∧ T e.n = some ⟨e.n, .fn e.f e.ps e.b e.r, e.near, t⟩ ∧ IsSrt L2 F ∧ bodyC e t F ∈ vis ++ pd
structure SeqP (cs vis new : List Conf) : Prop where
  all : ∀ c ∈ cs, c ∈ vis ++ new
  clo : ∀ k ∈ new, ∀ s ∈ succs k, s ∈ vis ++ new
  rch : ∀ k ∈ new, ∃ c ∈ cs, Rch c k
theorem SeqP.nil {vis : List Conf} : SeqP [] vis [] := ⟨fun _ h => by simp at h, fun _ h => by simp at h, fun _ h => by simp at h⟩
theorem SeqP.app {cs ds vis n1 n2 : List Conf} (a : SeqP cs vis n1) (b : SeqP ds (vis ++ n1) n2) : SeqP (cs ++ ds) vis (n1 ++ n2) := by
  have e : vis ++ (n1 ++ n2) = (vis ++ n1) ++ n2 := (List.append_assoc ..).symm
  refine ⟨fun c hc => ?_, fun k hk s hs => ?_, fun k hk => ?_⟩
  · rw [e]
    rcases List.mem_append.mp hc with z | z
    · exact List.mem_append_left _ (a.all c z)
    · exact b.all c z
  · rw [e]
    rcases List.mem_append.mp hk with z | z
    · exact List.mem_append_left _ (a.clo k z s hs)
    · exact b.clo k z s hs
  · rcases List.mem_append.mp hk with z | z
    · obtain ⟨c, hc, r⟩ := a.rch k z; exact ⟨c, List.mem_append_left _ hc, r⟩
    · obtain ⟨c, hc, r⟩ := b.rch k z; exact ⟨c, List.mem_append_right _ hc, r⟩
theorem SeqP.wrap {c : Conf} {vis new : List Conf} (a : SeqP (succs c) (vis ++ [c]) new) : SeqP [c] vis ([c] ++ new) := by
  have e : vis ++ ([c] ++ new) = (vis ++ [c]) ++ new := (List.append_assoc ..).symm
  refine ⟨fun d hd => ?_, fun k hk s hs => ?_, fun k hk => ⟨c, by simp, ?_⟩⟩
  · rw [List.mem_singleton.mp hd]; simp
  · rw [e]
    rcases List.mem_append.mp hk with z | z
    · rw [List.mem_singleton.mp z] at hs; exact a.all s hs
    · exact a.clo k z s hs
  · rcases List.mem_append.mp hk with z | z
    · rw [List.mem_singleton.mp z]; exact .base
    · obtain ⟨d, hd, r⟩ := a.rch k z
      exact (Rch.step .base hd).trans r
theorem GoInv.add {T : TT'} {vis : List Conf} {ks : List NestedKey} {c : Conf} (I : GoInv T vis ks [c]) (h : T c.1.n = some c.1) (hr : RecOk (recC c)) : GoInv T (vis ++ [c]) ks [] := by
  refine ⟨fun k hk => ?_, fun m v x hx => ?_, fun k hk => ?_⟩
  · rcases List.mem_append.mp hk with z | z
    · exact I.reg k z
    · rw [List.mem_singleton.mp z]; exact h
  · rw [recsOf_app] at hx
    rcases List.mem_append.mp hx with z | z
    · exact I.rok m v x z
    · exact hr m v x (by simpa [recsOf] using z)
  · obtain ⟨e, t, F, L1, L2, h1, h2, h3, h4⟩ := I.met k hk
    exact ⟨e, t, F, L1, L2, h1, h2, h3, by rw [List.append_nil]; exact h4⟩
theorem GoInv.pend {T : TT'} {vis : List Conf} {ks : List NestedKey} (I : GoInv T vis ks []) (pd : List Conf) : GoInv T vis ks pd :=
  ⟨I.reg, I.rok, fun k hk => by
    obtain ⟨e, t, F, L1, L2, h1, h2, h3, h4⟩ := I.met k hk
    exact ⟨e, t, F, L1, L2, h1, h2, h3, List.mem_append_left _ (by rw [List.append_nil] at h4; exact h4)⟩⟩
structure TabB (P : Program) (w : World) (T : TT') (K : PySem.W.Frag) (H : Hp) (nd md kd : Addr) (vis : List Conf) (ks : List NestedKey) (pd : List Conf) : Prop where
  near : NearAt H nd (recsOf vis)
  may : MayAt (D3 nd md kd) H md (recsOf vis)
  met : MetAt P w K H kd ks
  inv : GoInv T vis ks pd
  n1 : nd ≠ md
  n2 : nd ≠ kd
  n3 : md ≠ kd
end BN
namespace BN
open PySem L2 PyProof.Rows
open BNQ (kvE srtE TupsAt MetAt MetV)
theorem MetAt.fr {C : CP} {P : Program} {w : World} {K : PySem.W.Frag} {H H' : Hp} {kd : Addr} {ks : List NestedKey} (hC : ∀ o, ¬ C kd o) (f : Fr C H H') (M : MetAt P w K H kd ks) : MetAt P w K H' kd ks := by
  obtain ⟨xs, e, h, q⟩ := M.ex
  refine ⟨⟨xs, e, h.imp (fun z => f.at z (hC _)) (fun z => ⟨z.1, f.at z.2 (hC _)⟩), fun x hx => ⟨Dp.fr f _ _ (BNQ.tup_key _) (q x hx).1, (q x hx).2⟩⟩, M.nd, M.len⟩
theorem MetAt.there {P : Program} {w : World} {K : PySem.W.Frag} {H : Hp} {kd : Addr} {ks : List NestedKey} (M : MetAt P w K H kd ks) : ∃ o, H kd = some o := by
  obtain ⟨xs, e, h | h, q⟩ := M.ex
  · exact ⟨_, h⟩
  · exact ⟨_, h.2⟩
theorem MetAt.nil {P : Program} {w : World} {K : PySem.W.Frag} {H : Hp} {kd : Addr} (h : H kd = some (.dK [])) : MetAt P w K H kd [] := ⟨⟨[], rfl, .inr ⟨rfl, h⟩, fun x z => by simp at z⟩, List.nodup_nil, Nat.zero_le _⟩
theorem TabB.fr {P : Program} {w : World} {T : TT'} {K : PySem.W.Frag} {H H' : Hp} {nd md kd : Addr} {vis pd : List Conf} {ks : List NestedKey} (B : TabB P w T K H nd md kd vis ks pd) (f : Fr c0 H H') : TabB P w T K H' nd md kd vis ks pd :=
  ⟨B.near.fr (fun _ z => z) f, B.may.fr (fun _ z => z) (fun _ _ z => z.elim) f, MetAt.fr (fun _ z => z) f B.met, B.inv, B.n1, B.n2, B.n3⟩
theorem TabB.pend {P : Program} {w : World} {T : TT'} {K : PySem.W.Frag} {H : Hp} {nd md kd : Addr} {vis : List Conf} {ks : List NestedKey} (B : TabB P w T K H nd md kd vis ks []) (pd : List Conf) : TabB P w T K H nd md kd vis ks pd :=
  ⟨B.near, B.may, B.met, B.inv.pend pd, B.n1, B.n2, B.n3⟩
theorem Fr.ofKeep {H H' : Hp} (k : ∀ b o, H b = some o → H' b = some o) : Fr c0 H H' := ⟨fun a u e _ => k a u e, fun a h => by
  cases q : H a with
  | none => rfl
  | some o => rw [k a o q] at h; cases h⟩
theorem datas_map {α : Type} (g : α → NestedKey) : ∀ l : List α, NestedKey.datas (l.map g) = l.map fun a => (g a).data
  | [] => by simp [NestedKey.datas]
  | a :: r => by simp [NestedKey.datas, datas_map g r]
theorem tups_dp {K : PySem.W.Frag} {H : Hp} : ∀ {ts : List Addr} {es : List (Str × Int)}, TupsAt H ts es → DpAll K H (ts.map V.ref) (NestedKey.datas (es.map fun e => .tup [.text e.1, .num e.2]))
  | _, _, .nil => by simp only [List.map_nil, NestedKey.datas]; exact .nil
  | _, _, .cons h r => by
    simp only [List.map_cons, NestedKey.datas]
    exact .cons (by simp only [NestedKey.data, NestedKey.datas]; exact .tup (SqT.of h) (.cons (.str _) (.cons (.int _) .nil))) (tups_dp r)
theorem depthE : ∀ es : List (Str × Int), NestedKey.depthAll (es.map fun e => .tup [.text e.1, .num e.2]) ≤ 1
  | [] => by simp [NestedKey.depthAll]
  | e :: r => by
    have := depthE r
    simp only [List.map_cons, NestedKey.depthAll, NestedKey.depth]; omega
theorem keyB_depth (n : Int) (L1 L2 : List (Str × Int)) : (keyB n L1 L2).depth ≤ 8 := by
  have h1 := depthE L1
  have h2 := depthE L2
  simp only [keyB, NestedKey.depth, NestedKey.depthAll]; omega
theorem keyE_inj : ∀ {a b : List (Str × Int)}, (a.map fun e => NestedKey.tup [.text e.1, .num e.2]) = (b.map fun e => NestedKey.tup [.text e.1, .num e.2]) → a = b
  | [], [], _ => rfl
  | [], _ :: _, h => by simp at h
  | _ :: _, [], h => by simp at h
  | (x, i) :: a, (y, j) :: b, h => by
    simp only [List.map_cons, List.cons.injEq] at h
    obtain ⟨h1, h2⟩ := h
    have := keyE_inj h2
    simp only [NestedKey.tup.injEq, List.cons.injEq, NestedKey.text.injEq, NestedKey.num.injEq, and_true] at h1
    obtain ⟨rfl, rfl⟩ := h1
    rw [this]
theorem keyB_inj {n m : Int} {a b c d : List (Str × Int)} (h : keyB n a b = keyB m c d) : n = m ∧ b = d := by
  simp only [keyB, NestedKey.tup.injEq, List.cons.injEq, NestedKey.num.injEq, and_true] at h
  exact ⟨h.1, keyE_inj h.2.2⟩
theorem met_hit {T : TT'} {vis : List Conf} {ks : List NestedKey} (I : GoInv T vis ks []) {e : FB} {t : List FB} {F : BF} {L1 L2 : List (Str × Int)} (hT : T e.n = some ⟨e.n, .fn e.f e.ps e.b e.r, e.near, t⟩) (hL : IsSrt L2 F) (hk : keyB e.n L1 L2 ∈ ks) : bodyC e t F ∈ vis := by
  obtain ⟨e', t', F', L1', L2', h1, h2, h3, h4⟩ := I.met _ hk
  obtain ⟨q1, q2⟩ := keyB_inj h1
  have en : e.n = e'.n := by omega
  rw [← en, hT] at h2
  obtain ⟨n, f, ps, b, r, near⟩ := e
  obtain ⟨n', f', ps', b', r', near'⟩ := e'
  have h2 := Option.some.inj h2
  simp only [Plc.mk.injEq, Part.fn.injEq] at h2
  obtain ⟨_, ⟨rfl, rfl, rfl, rfl⟩, rfl, rfl⟩ := h2
  have en : n = n' := en
  subst en
  rw [← q2] at h3
  rw [hL.uniq h3]
  simpa using h4
theorem putsB_more {F : BF} {ps : List Str} {n : Int} {i : Nat} {x : Str} (h : ps[i]? = some x) : putB (putsB F (ps.take i) n) x n = putsB F (ps.take (i + 1)) n := by
  funext y
  rw [take_more h]
  unfold putB putsB
  by_cases e : y = x
  · rw [if_pos e, if_pos (by simp [e])]
  · rw [if_neg e]
    by_cases q : y ∈ ps.take i
    · rw [if_pos q, if_pos (by simp [q])]
    · rw [if_neg q, if_neg (by simp [q, e])]
theorem putsB_nil (F : BF) (n : Int) : putsB F [] n = F := by funext y; simp [putsB]
/-! ### gone through, entered -/
def spGo (K : PySem.W.Frag) (P : Program) (w : World) (C : Addr) (n : Nat) : Sp := fun vs H Q _ => ∃ (T : TT') (p dx nd md kd : Addr) (v : V) (num : Nat) (ae ac af : Addr) (pt : Part) (E F : BF) (fe : List FB) (ns : List Str) (vis : List Conf) (ks : List NestedKey), vs = [.ref p, v, .int num, .ref ae, .ref ac, .ref af] ∧
  H p = some (.ins C dx (flL nd md kd)) ∧ TabB P w T K H nd md kd vis ks [(⟨num, pt, E, fe⟩, F)] ∧ GAt (D3 nd md kd) K H v ae ac af pt E F fe ∧ GOk T n pt num E F fe ns ks.length ∧
  ∀ H' new ks', Fr (cD (D3 nd md kd)) H H' → TabB P w T K H' nd md kd (vis ++ new) ks' [] → SeqP [(⟨num, pt, E, fe⟩, F)] vis new → ks'.length ≤ ks.length + pt.vst (vsB fe) → Q .non H'
def spEnter (K : PySem.W.Frag) (P : Program) (w : World) (C : Addr) (n : Nat) : Sp := fun vs H Q _ => ∃ (T : TT') (p dx nd md kd tt kn ne ac : Addr) (vp : V) (e : FB) (t : List FB) (F : BF) (vis : List Conf) (ks : List NestedKey), vs = [.ref p, .ref tt, .ref ac] ∧
  H p = some (.ins C dx (flL nd md kd)) ∧ TabB P w T K H nd md kd vis ks [] ∧ SqT K H tt [.int e.n, vp, .ref ne, .ref kn] ∧ Dp K H vp (Part.fn e.f e.ps e.b e.r).enc ∧ BdAt H ne e.near (bdN (1 + e.b.dpt (dlB t))) ∧ ¬ D3 nd md kd ne ∧
  BdAt H ac F (bdN (1 + e.b.dpt (dlB t))) ∧ ¬ D3 nd md kd ac ∧ FunsB (D3 nd md kd) K H kn t ∧ EOkB (e :: t) F ∧ EnvR T (e :: t) ∧ e.b.dpt (dlB t) + 1 ≤ n ∧ (∀ x v, F x = some v → -1 ≤ v ∧ v < 200) ∧ ks.length + e.b.vst (vsB t) + 1 ≤ 15000000 ∧
  ∀ H' new ks', Fr (cD (D3 nd md kd)) H H' → TabB P w T K H' nd md kd (vis ++ new) ks' [] → SeqP [bodyC e t F] vis new → ks'.length ≤ ks.length + e.b.vst (vsB t) + 1 → Q .non H'
theorem cD_dK {D : Addr → Prop} : ∀ c kvs, cD D c (.dK kvs) → D c := fun _ _ z => z
end BN
namespace BN
open PySem L2 PyProof.Rows
open BNQ (kvE srtE TupsAt MetAt MetV)
/-! ### entered -/
def t_enter (K : PySem.W.Frag) (P : Program) (w : World) (cLkr : Addr) (n : Nat) : TS :=
  (tSeq (tAsg (tVar 1) (gTup K 4 (gCons (gName 3) (gCons (gName 4) (gCons (gName 5) (gCons (gName 6) gNil))))))
    (tSeq (tAsg (tTup (tCons (tVar 3) (tCons (tCB (rTupSq K) (tCons (tCB BNQ.rSortIt (tCons (tBM0 K "dict" BNQ.rItems (tVar 5)) tNil)) tNil)) (tCons (tCB (rTupSq K) (tCons (tCB BNQ.rSortIt (tCons (tBM0 K "dict" BNQ.rItems (tVar 2)) tNil)) tNil)) tNil)))) (gName 7))
    (tIfS (tTest (tOp (BNQ.rNotInMet K P w) (tVar 7) (tFld K (tVar 0) "met"))) (tSeq (BNQ.sMPut K P w (tFld K (tVar 0) "met") (tVar 7) (tC (.bl true)))
    (tSeq (tFor (iTup K (tOp (rIxT K) (tVar 4) (tC (.int 2)))) (gName 8) (tSeq (tAsg (tCall spWith1 [] C8.E0 (tCons (tVar 5) (tCons (tVar 8) (tCons (tVar 3) tNil)))) (gName 5))
    (tAsg (tCall spWith1 [] C8.E0 (tCons (tVar 2) (tCons (tVar 8) (tCons (tVar 3) tNil)))) (gName 2))))
    (tDrop (tMeth cLkr "go" (spGo K P w cLkr n) [] C8.E0 (tVar 0) (tCons (tOp (rIxT K) (tVar 4) (tC (.int 3))) (tCons (tOp oAdd (tVar 3) (tC (.int 1))) (tCons (tVar 5) (tCons (tVar 2) (tCons (tVar 6) tNil))))))))) tNext)))
theorem pure_enter {K : PySem.W.Frag} {P : Program} {w : World} {C : Addr} {n : Nat} (Tk : LkC K C) (vs : List V) (H : Hp) (Q : VK) (X : XK) (h : spEnter K P w C (n + 1) vs H Q X) :
    t_enter K P w C n { nx := fun _ H' => Q .non H', rt := Q } (start ["self", "fun", "called", "number", "part", "near", "funs", "key", "name"] vs) H := by
  obtain ⟨T, p, dx, nd, md, kd, tt, kn, ne, ac, vp, e, t, F, vis, ks, rfl, hp, B, hT, dv, bE, nE, bC, nC, hF, hEO, hER, hdp, hrg, hks, k⟩ := h
  obtain ⟨E1, hE1, ndE, relE, lE⟩ := bE.ex
  obtain ⟨E2, hE2, ndC, relC, lC⟩ := bC.ex
  have lE' : E1.length ≤ 50000 := Nat.le_trans lE (Nat.sub_le _ _)
  have lC' : E2.length ≤ 50000 := Nat.le_trans lC (Nat.sub_le _ _)
  refine ⟨_, rfl, tt, _, rfl, hT, rfl, _, _, rfl, _, _, rfl, _, _, rfl, _, _, rfl, rfl, ?_⟩
  refine ⟨_, rfl, _, rfl, .inr (.inr (.inl ⟨rfl, .inl ⟨_, hE1⟩⟩)), ne, _, rfl, rfl, hE1, fun r1 hr1 => ?_⟩
  have f1 : Fr c0 H (upd H r1 (BNQ.ItV r1 ne)) := Fr.new hr1
  refine ⟨r1, ne, E1, rfl, upd_same, f1.at hE1 (fun z => z), by omega, fun H1 q1 ts1 kp1 hq1 hl1 TA1 => ?_⟩
  have f2 := f1.trans (Fr.ofKeep kp1)
  refine ⟨q1, _, rfl, .inl ⟨SqL.of hl1, fun u1 hu1 => ?_⟩⟩
  have f3 := f2.trans (Fr.new (o := .tup (ts1.map V.ref)) hu1)
  have TA1' := TA1.keep fun b o e => (Fr.new (C := c0) (o := .tup (ts1.map V.ref)) hu1).at e (fun z => z)
  have hu1' : (upd H1 u1 (.tup (ts1.map V.ref))) u1 = some (.tup (ts1.map V.ref)) := upd_same
  generalize (upd H1 u1 (.tup (ts1.map V.ref))) = H2 at f3 TA1' hu1' ⊢
  have hE2' := f3.at hE2 (fun z => z)
  refine ⟨_, rfl, .inr (.inr (.inl ⟨rfl, .inl ⟨_, hE2'⟩⟩)), ac, _, rfl, rfl, hE2', fun r2 hr2 => ?_⟩
  have f4 : Fr c0 H2 (upd H2 r2 (BNQ.ItV r2 ac)) := Fr.new hr2
  refine ⟨r2, ac, E2, rfl, upd_same, f4.at hE2' (fun z => z), by omega, fun H3 q2 ts2 kp2 hq2 hl2 TA2 => ?_⟩
  have f5 := f4.trans (Fr.ofKeep kp2)
  refine ⟨q2, _, rfl, .inl ⟨SqL.of hl2, fun u2 hu2 => ?_⟩⟩
  have f6 := f5.trans (Fr.new (o := .tup (ts2.map V.ref)) hu2)
  have TA2' := TA2.keep fun b o e => (Fr.new (C := c0) (o := .tup (ts2.map V.ref)) hu2).at e (fun z => z)
  have hu2' : (upd H3 u2 (.tup (ts2.map V.ref))) u2 = some (.tup (ts2.map V.ref)) := upd_same
  generalize (upd H3 u2 (.tup (ts2.map V.ref))) = H4 at f6 TA2' hu2' ⊢
  have TA1'' := TA1'.keep fun b o e => f6.at e (fun z => z)
  have hu1'' := f6.tup hu1'
  refine ⟨one_sz (Nat.le_of_ble_eq_true rfl), fun key hkey => ?_⟩
  have f7 : Fr c0 H4 (upd H4 key (.tup [.int e.n, .ref u1, .ref u2])) := Fr.new hkey
  have dk : Dp K (upd H4 key (.tup [.int e.n, .ref u1, .ref u2])) (.ref key) (keyB e.n (srtE E1) (srtE E2)).data := by
    unfold keyB
    simp only [NestedKey.data, NestedKey.datas]
    refine .tup (SqT.of upd_same) (.cons (.int _) (.cons ?_ (.cons ?_ .nil)))
    · exact .tup (SqT.of (f7.tup hu1'')) (tups_dp (TA1''.keep fun b o e => f7.at e (fun z => z)))
    · exact .tup (SqT.of (f7.tup hu2')) (tups_dp (TA2'.keep fun b o e => f7.at e (fun z => z)))
  generalize (upd H4 key (.tup [.int e.n, .ref u1, .ref u2])) = H5 at f7 dk ⊢
  have f05 := (f3.trans f6).trans f7
  have B5 := B.fr f05
  have hp5 := f05.at hp (fun z => z)
  have iS : IsSrt (srtE E2) F := ⟨E2, ndC, relC, rfl⟩
  refine ⟨_, rfl, _, rfl, p, C, dx, _, _, rfl, hp5, Tk.cl, Tk.nK, flL_met _ _ _, key, kd, _, ks, rfl, rfl, dk, keyB_depth _ _ _, B5.met, _, rfl, ?_⟩
  by_cases hk : keyB e.n (srtE E1) (srtE E2) ∈ ks
  · refine ifF (by rw [decide_eq_true hk]; rfl) ?_
    have hv := met_hit B.inv hER.1 iS hk
    exact k H5 [] ks f05.of0 (by rw [List.append_nil]; exact B5) ⟨fun c hc => by rw [List.mem_singleton.mp hc, List.append_nil]; exact hv, fun _ z => by simp at z, fun _ z => by simp at z⟩ (by omega)
  · refine ifT (by rw [decide_eq_false hk]; rfl) ?_
    obtain ⟨hEO1, ns, dF, dN, hbok, hb12, hbfl, hbw, hbd, hbsz⟩ := id hEO
    refine ⟨_, rfl, p, C, dx, _, _, rfl, hp5, Tk.cl, Tk.nK, flL_met _ _ _, _, rfl, key, kd, _, ks, rfl, rfl, dk, keyB_depth _ _ _, B5.met, hk, by omega, fun H6 g6 M6 => ?_⟩
    have np : p ≠ kd := fun z => by
      obtain ⟨xs, _, h | ⟨_, h⟩, _⟩ := B5.met.ex
      · rw [← z, hp5] at h; cases h
      · rw [← z, hp5] at h; cases h
    have hp6 := g6.at hp5 (fun z => np z)
    have hC6 : ∀ c kvs, cI kd c (.dK kvs) → D3 nd md kd c := fun c _ z => .inr (.inr z)
    have B6 : TabB P w T K H6 nd md kd vis (ks ++ [keyB e.n (srtE E1) (srtE E2)]) [bodyC e t F] := by
      refine ⟨B5.near.fr (fun _ z => B5.n2 z) g6, B5.may.fr (fun _ z => B5.n3 z) (fun a xs z => .inr (.inr z)) g6, M6, ⟨B5.inv.reg, B5.inv.rok, fun k' hk' => ?_⟩, B5.n1, B5.n2, B5.n3⟩
      rcases List.mem_append.mp hk' with z | z
      · obtain ⟨e', t', F', L1, L2, h1, h2, h3, h4⟩ := B5.inv.met k' z
        exact ⟨e', t', F', L1, L2, h1, h2, h3, List.mem_append_left _ (by rw [List.append_nil] at h4; exact h4)⟩
      · rw [List.mem_singleton.mp z]
        exact ⟨e, t, F, _, _, rfl, hER.1, iS, by simp⟩
    have f06 : Fr (cD (D3 nd md kd)) H H6 := f05.of0.trans (g6.mono fun a _ z => .inr (.inr z))
    have hT6 := f06.sqT hT
    obtain ⟨t', tp, vb, vr, rfl, hT3, hTp, db, dr⟩ := inv_fn (Dp.fr f06 _ _ (tup_enc _) dv)
    have bE6 := bE.fr (fun _ z => nE z) f06
    have bC6 := bC.fr (fun _ z => nC z) f06
    have hF6 := hF.fr cD_dK f06
    refine ⟨_, rfl, t', _, _, _, rfl, rfl, hT3, rfl, tp, rfl, ⟨_, hTp⟩, ?_⟩
    refine for_tup (K := K) (a := tp) (xs := e.ps.map V.str) (fun i σ H' => ∃ (a5 a2 : Addr) (s8 : Option V), σ = [some (.ref p), some (.ref tt), some (.ref a2), some (.int e.n), some (.ref t'), some (.ref a5), some (.ref kn), some (.ref key), s8] ∧ Fr c0 H6 H' ∧
        BdAt H' a5 (putsB e.near (e.ps.take i) e.n) (bdN (1 + e.b.dpt (dlB t)) + i) ∧ ¬ D3 nd md kd a5 ∧ BdAt H' a2 (putsB F (e.ps.take i) e.n) (bdN (1 + e.b.dpt (dlB t)) + i) ∧ ¬ D3 nd md kd a2)
      ⟨ne, ac, _, rfl, Fr.refl _, by rw [List.take_zero, putsB_nil]; exact bE6, nE, by rw [List.take_zero, putsB_nil]; exact bC6, nC⟩ (fun i σ H' _ ⟨_, _, _, _, f', _⟩ => f'.sqT hTp) ?_ ?_
    · rintro i x σ H7 hx ⟨a5, a2, s8, rfl, f7', b5, n5, b2, n2⟩
      obtain ⟨y, hy, rfl⟩ := map_at hx
      have li := at_lt hy
      have hbd' : bdN (1 + e.b.dpt (dlB t)) + i ≤ 100000 := by
        have : bdN (1 + e.b.dpt (dlB t)) ≤ 50000 := Nat.sub_le _ _
        omega
      have hnn : ∀ (H7 : Hp), Fr c0 H6 H7 → ∀ q : Addr, H7 q = none → ¬ D3 nd md kd q := fun H7 f q hq z => by
        have hq6 := f.free _ hq
        obtain ⟨L, hL, _⟩ := B6.near.ex
        obtain ⟨L', hL', _⟩ := B6.may.ex
        obtain ⟨o, ho⟩ := MetAt.there B6.met
        rcases z with z | z | z
        · rw [z, hL] at hq6; cases hq6
        · rw [z, hL'] at hq6; cases hq6
        · rw [z, ho] at hq6; cases hq6
      refine ⟨_, rfl, _, rfl, _, rfl, a5, y, e.n, _, _, rfl, b5, hbd', fun p5 H8 f8 hp5' c5 => ?_⟩
      have b2' := b2.fr (C := c0) (fun _ z => z) f8
      refine ⟨_, rfl, _, rfl, _, rfl, a2, y, e.n, _, _, rfl, b2', hbd', fun p2 H9 f9 hp2' c2 => ?_⟩
      have n5' := hnn H7 f7' p5 hp5'
      have n2' := hnn H8 (f7'.trans f8) p2 hp2'
      refine ⟨p5, p2, _, rfl, (f7'.trans f8).trans f9, ?_, n5', ?_, n2'⟩
      · rw [putsB_more hy] at c5
        exact c5.fr (C := c0) (fun _ z => z) f9
      · rw [putsB_more hy] at c2
        exact c2
    · rintro σ H7 ⟨a5, a2, s8, rfl, f7', b5, n5, b2, n2⟩
      rw [List.length_map, List.take_length] at b5 b2
      have hbm : bdN (1 + e.b.dpt (dlB t)) + e.ps.length ≤ bdN (e.b.dpt (dlB t)) := by
        show 50000 - 13 * (1 + e.b.dpt (dlB t)) + e.ps.length ≤ 50000 - 13 * e.b.dpt (dlB t)
        omega
      have B7 := B6.fr f7'
      have hp7 := f7'.at hp6 (fun z => z)
      have e1 : ((e.n : Nat) : Int) + 1 = ((e.n + 1 : Nat) : Int) := by omega
      have nogo : (flL nd md kd).lookup ("go" : Str) = none := flL_no _ _ _ (by decide +kernel) (by decide +kernel) (by decide +kernel)
      refine ⟨_, rfl, p, dx, _, rfl, hp7, nogo, _, rfl, t', _, _, _, rfl, rfl, f7'.sqT hT3, rfl, _, rfl, _, _, rfl, rfl, _, rfl, _, rfl, _, rfl, ?_⟩
      refine ⟨T, p, dx, nd, md, kd, vb, e.n + 1, a5, a2, kn, e.b, putsB e.near e.ps e.n, putsB F e.ps e.n, t, ns ++ e.ps, vis, _, rfl, hp7, B7, ⟨Dp.fr f7' _ _ (tup_enc _) db, b5.mono hbm, n5, b2.mono hbm, n2, hF6.fr (C := c0) (fun _ _ z => z.elim) f7'⟩,
        ⟨hbok, dN.puts _ _, dF.puts _ _, hEO1.mono fun y hy => putsB_some y hy, by omega, by omega, hbfl, hbw, hbd, by omega, fun x v hv => ?_, hER.2.1, hER.2.2, by rw [List.length_append]; show ks.length + 1 + _ ≤ _; omega⟩, fun H8 new ks' f8 B8 S8 l8 => ?_⟩
      · unfold putsB at hv
        split at hv
        · cases hv; omega
        · exact hrg x v hv
      · refine k H8 new ks' ((f06.trans f7'.of0).trans f8) B8 S8 ?_
        rw [List.length_append] at l8
        have : ([keyB e.n (srtE E1) (srtE E2)]).length = 1 := rfl
        omega
end BN
namespace BN
open PySem L2 PyProof.Rows
open BNQ (kvE srtE TupsAt MetAt MetV)
/-! ### gone through: what stands in a part, in a row -/
theorem keep_lc {K : PySem.W.Frag} {H1 : Hp} {σ : L2.St} {Q : Addr → Hp → Prop} {a : Addr} {xs : List V} {j : Nat} {tt : TT} {b : Bool} (hj : j < σ.length) (hx : SqT K H1 a xs) (hn : xs.length ≤ 100000)
    (htt : ∀ x H' Q, Fr c0 H1 H' → Q b H' → tt ((wipe σ [j]).set j (some x)) H' Q)
    (hq : ∀ (D : Addr) (H' : Hp), H1 D = none → H' D = some (.lst (if b = true then xs else [])) → Fr c0 H1 H' → Q D H') : ∀ D, H1 D = none →
    ∃ W : Nat → Nat → Hp → Prop, (∃ m, W 0 m (upd H1 D (.lst []))) ∧ ∀ i m H, W i m H →
      ((Itt K a).stop i H ∧ Q D H) ∨ ((Itt K a).go i H ∧ ∃ Nx : Hp → Prop, (∀ H', Nx H' → ∃ m', m' < m ∧ W (i + 1) m' H') ∧ ∀ x H', (Itt K a).yld i H x H' → gName j x (wipe σ [j]) H' fun σ2 H2 => wipe σ2 [j] = wipe σ [j] ∧ tt σ2 H2 fun b H3 =>
        if b = true then (tVar j) σ2 H3 fun y H4 => ∃ acc, H4 D = some (.lst acc) ∧ acc.length < sizeLine ∧ Nx (upd H4 D (.lst (acc ++ [y]))) else Nx H3) := fun D hD => by
  refine lc_tup (K := K) (a := a) (xs := xs) (Qd := fun H => Q D H) (fun i H' => Fr c0 H1 H' ∧ H' D = some (.lst (if b = true then xs.take i else []))) ⟨Fr.new hD, by rw [upd_same, List.take_zero]; split <;> rfl⟩ (fun i H' _ ⟨f, _⟩ => f.sqT hx) (fun i x H' hi ⟨f, e⟩ => ⟨wipe1 _ _ _, ?_⟩) fun H' ⟨f, e⟩ => ?_
  · have hl := at_lt hi
    refine htt x H' _ f ?_
    cases b with
    | true =>
      refine iteT ⟨_, by rw [List.getElem?_set_self (by simpa [wipe] using hj)], _, e, Nat.lt_of_le_of_lt (m := 100000) ?_ (by rw [sizeLine_eq]; decide), f.fresh hD, ?_⟩
      · rw [if_pos rfl, List.length_take]; omega
      · rw [upd_same, if_pos rfl, if_pos rfl, take_more hi]
    | false => exact iteF ⟨f, e⟩
  · rw [List.take_length] at e
    exact hq D H' hD e f
def argL : List Part → Nat → BF → List FB → BF → List Conf
  | [], _, _, _, _ => []
  | p :: r, n, E, fe, F => (⟨n, p, E, fe⟩, F) :: argL r (n + p.size) E fe F
theorem argL_list (E : BF) (fe : List FB) (F : BF) : ∀ (as : Parts) (n : Nat), argC as n E fe F = argL as.list n E fe F
  | .nil, n => by simp [argC, argL, Parts.list]
  | .cons p r, n => by simp [argC, argL, Parts.list, argL_list E fe F r]
theorem argL_app (E : BF) (fe : List FB) (F : BF) : ∀ (l : List Part) (q : Part) (n : Nat), argL (l ++ [q]) n E fe F = argL l n E fe F ++ [(⟨n + (l.map Part.size).sum, q, E, fe⟩, F)]
  | [], q, n => by simp [argL]
  | p :: l, q, n => by simp [argL, argL_app E fe F l q, Nat.add_assoc]
structure KidOk (T : TT') (n : Nat) (q : Part) (num : Nat) (E : BF) (fe : List FB) (ns : List Str) (d : Nat) : Prop where
  ok : q.ok ns (arB fe)
  dp : q.dpt (dlB fe) ≤ n
  dd : q.dpt (dlB fe) + 1 ≤ d
  wid : q.wid ≤ 1000
  dep : q.dep ≤ 20
  reg : Reg T q num E fe
theorem go_kids {K : PySem.W.Frag} {P : Program} {w : World} {C : Addr} {n : Nat} (T : TT') {p dx nd md kd ae ac af L : Addr} {num : Nat} {E F : BF} {fe : List FB} {ns : List Str} {d : Nat} {qs : List Part} {us : List V} {H : Hp} {vis : List Conf} {ks : List NestedKey} {v : V} {s2 wv s8 s9 : Option V} {D : Ends}
    (hp : H p = some (.ins C dx (flL nd md kd))) (B : TabB P w T K H nd md kd vis ks []) (hL : H L = some (.lst us)) (nL : ¬ D3 nd md kd L) (dL : DpAll K H us (qs.map Part.enc))
    (bE : BdAt H ae E (bdN d)) (nE : ¬ D3 nd md kd ae) (bC : BdAt H ac F (bdN d)) (nC : ¬ D3 nd md kd ac) (hF : FunsB (D3 nd md kd) K H af fe)
    (hd : d ≤ 1000) (hl : fe.length + d ≤ 1001) (dE : dom E ns) (dF : dom F ns) (env : EOkB fe F) (rg : ∀ x v, F x = some v → -1 ≤ v ∧ v < 200) (er : EnvR T fe) (sz : num + (qs.map Part.size).sum ≤ 200)
    (kid : ∀ i q, qs[i]? = some q → KidOk T n q (num + ((qs.take i).map Part.size).sum) E fe ns d) (cst : ks.length + (qs.map fun q => q.vst (vsB fe)).sum ≤ 15000000)
    (fin : ∀ H' new ks' s7 s9', Fr (cD (D3 nd md kd)) H H' → TabB P w T K H' nd md kd (vis ++ new) ks' [] → SeqP (argL qs num E fe F) vis new → ks'.length ≤ ks.length + (qs.map fun q => q.vst (vsB fe)).sum →
      D.nx [some (.ref p), some v, s2, some (.ref ae), some (.ref ac), some (.ref af), wv, s7, s8, s9', some (.ref L)] H') :
    (tFor (iList K (tVar 10)) (gName 9) (tSeq (tDrop (tMeth C "go" (spGo K P w C n) [] C8.E0 (tVar 0) (tCons (tVar 9) (tCons (tVar 7) (tCons (tVar 3) (tCons (tVar 4) (tCons (tVar 5) tNil)))))))
      (tAsg (tOp oAdd (tVar 7) (tCall (spSize K 20) [] C8.E0 (tCons (tVar 9) tNil))) (gName 7)))) D
      [some (.ref p), some v, s2, some (.ref ae), some (.ref ac), some (.ref af), wv, some (.int num), s8, s9, some (.ref L)] H := by
  refine ⟨_, rfl, L, rfl, ⟨_, SqL.of hL⟩, ?_⟩
  refine for_list (K := K) (a := L) (xs := us) (fun i σ H' => ∃ (m : Nat) (s9' : Option V) (new : List Conf) (ks' : List NestedKey), σ = [some (.ref p), some v, s2, some (.ref ae), some (.ref ac), some (.ref af), wv, some (.int m), s8, s9', some (.ref L)] ∧
      m = num + ((qs.take i).map Part.size).sum ∧ Fr (cD (D3 nd md kd)) H H' ∧ TabB P w T K H' nd md kd (vis ++ new) ks' [] ∧ SeqP (argL (qs.take i) num E fe F) vis new ∧ ks'.length ≤ ks.length + ((qs.take i).map fun q => q.vst (vsB fe)).sum)
    ⟨num, s9, [], ks, rfl, by simp, Fr.refl _, by rw [List.append_nil]; exact B, by rw [List.take_zero]; exact SeqP.nil, by simp⟩ (fun i σ H' _ ⟨_, _, _, _, _, _, f', _⟩ => SqL.of (f'.at hL nL)) ?_ ?_
  · rintro i x σ H1 hx ⟨m, s9', new, ks', rfl, em, f1, B1, S1, l1⟩
    obtain ⟨dd, hdd, Dx⟩ := dL.getV hx
    obtain ⟨q, hq, rfl⟩ := map_at hdd
    have kq := kid i q hq
    have hp1 := f1.at hp (fun z => by
      obtain ⟨L1, e1, _⟩ := B.near.ex
      obtain ⟨L2, e2, _⟩ := B.may.ex
      rcases z with z | z | z
      · rw [z, e1] at hp; cases hp
      · rw [z, e2] at hp; cases hp
      · obtain ⟨xs, _, h | ⟨_, h⟩, _⟩ := B.met.ex
        · rw [z, h] at hp; cases hp
        · rw [z, h] at hp; cases hp)
    have Dx1 := Dp.fr f1 _ _ (tup_enc q) Dx
    have k1 := kq.dd
    have mb : bdN d ≤ bdN (q.dpt (dlB fe)) := Nat.sub_le_sub_left (by omega) _
    have tk : (qs.take (i + 1)) = qs.take i ++ [q] := take_more hq
    have szs : ((qs.take (i + 1)).map Part.size).sum ≤ (qs.map Part.size).sum := by
      have := congrArg (fun l => (List.map Part.size l).sum) (List.take_append_drop (i + 1) qs)
      simp only [List.map_append, List.sum_append] at this; omega
    have vsz : ((qs.take (i + 1)).map fun q => q.vst (vsB fe)).sum ≤ (qs.map fun q => q.vst (vsB fe)).sum := by
      have := congrArg (fun l => (List.map (fun q : Part => q.vst (vsB fe)) l).sum) (List.take_append_drop (i + 1) qs)
      simp only [List.map_append, List.sum_append] at this; omega
    rw [tk] at szs vsz
    simp only [List.map_append, List.sum_append, List.map_cons, List.map_nil, List.sum_cons, List.sum_nil] at szs vsz
    have nogo : (flL nd md kd).lookup ("go" : Str) = none := flL_no _ _ _ (by decide +kernel) (by decide +kernel) (by decide +kernel)
    subst em
    refine ⟨_, rfl, p, dx, _, rfl, hp1, nogo, _, rfl, _, rfl, _, rfl, _, rfl, _, rfl, T, p, dx, nd, md, kd, x, _, ae, ac, af, q, E, F, fe, ns, vis ++ new, ks', rfl, hp1, B1.pend _, ⟨Dx1, (bE.fr (fun _ z => nE z) f1).mono mb, nE, (bC.fr (fun _ z => nC z) f1).mono mb, nC, hF.fr cD_dK f1⟩,
      ⟨kq.ok, dE, dF, env, kq.dp, by omega, by omega, kq.wid, kq.dep, by omega, rg, kq.reg, er, by omega⟩, fun H2 new2 ks2 f2 B2 S2 l2 => ?_⟩
    refine ⟨_, rfl, _, rfl, x, q, rfl, Dp.fr f2 _ _ (tup_enc q) Dx1, kq.dep, kq.wid, fun H3 f3 => ⟨_, _, rfl, rfl, ?_⟩⟩
    refine ⟨num + ((qs.take i).map Part.size).sum + q.size, _, new ++ new2, ks2, rfl, ?_, (f1.trans f2).trans f3.of0, ?_, ?_, ?_⟩
    · rw [tk]; simp [Nat.add_assoc]
    · rw [← List.append_assoc]; exact B2.fr f3
    · rw [tk, argL_app]
      exact S1.app S2
    · rw [tk]
      simp only [List.map_append, List.sum_append, List.map_cons, List.map_nil, List.sum_cons, List.sum_nil]
      omega
  · rintro σ H1 ⟨m, s9', new, ks', rfl, em, f1, B1, S1, l1⟩
    have ul : us.length = qs.length := by rw [dL.len, List.length_map]
    rw [ul, List.take_length] at S1 l1
    exact fin H1 new ks' _ _ f1 B1 S1 l1
end BN
namespace BN
open PySem L2 PyProof.Rows
open BNQ (kvE srtE TupsAt MetAt MetV)
/-! ### gone through -/
abbrev bNum (wd : Str) : Bool := !decide (V.str wd = V.str "num")
theorem flat_tail {K : PySem.W.Frag} {P : Program} {w : World} {C : Addr} {n : Nat} (T : TT') {p dx nd md kd ae ac af t : Addr} {num : Nat} {E F : BF} {fe : List FB} {ns : List Str} {pt : Part} {qs : List Part} {ws : List V} {H : Hp} {vis : List Conf} {ks : List NestedKey} {wd : Str} {Q : VK}
    (hnc : decide (V.str wd = V.str "call") = false) (hT : SqT K H t (.str wd :: ws)) (hws : ws.length ≤ 10) (hne : ws ≠ []) (dL : DpAll K H (if bNum wd = true then ws else []) (qs.map Part.enc))
    (hp : H p = some (.ins C dx (flL nd md kd))) (B : TabB P w T K H nd md kd vis ks [(⟨num, pt, E, fe⟩, F)]) (W : GAt (D3 nd md kd) K H (.ref t) ae ac af pt E F fe) (O : GOk T (n + 1) pt num E F fe ns ks.length)
    (nr : recC (⟨num, pt, E, fe⟩, F) = []) (es : succs (⟨num, pt, E, fe⟩, F) = argL qs (num + 1) E fe F) (sz : pt.size = 1 + (qs.map Part.size).sum) (vs : (qs.map fun q => q.vst (vsB fe)).sum ≤ pt.vst (vsB fe))
    (kid : ∀ i q, qs[i]? = some q → KidOk T n q (num + 1 + ((qs.take i).map Part.size).sum) E fe ns (pt.dpt (dlB fe)))
    (k : ∀ H' new ks', Fr (cD (D3 nd md kd)) H H' → TabB P w T K H' nd md kd (vis ++ new) ks' [] → SeqP [(⟨num, pt, E, fe⟩, F)] vis new → ks'.length ≤ ks.length + pt.vst (vsB fe) → Q .non H') :
    (tSeq (tAsg (tOp oAdd (tVar 2) (tC (.int 1))) (gName 7))
    (tSeq (tAsg (tIf (tTest (tOp rEq (tVar 6) (tC (.str "call")))) (tCB (rListSq K) (tCons (tOp (rIxT K) (tVar 1) (tC (.int 2))) tNil)) (tLc (iTup K (tSl (rSlT K) (tVar 1) (tPart (tC (.int 1))) tNoPart)) (gName 9) (tTest (tOp rNe (tVar 6) (tC (.str "num")))) (tVar 9) [9])) (gName 10))
    (tSeq (tFor (iList K (tVar 10)) (gName 9) (tSeq (tDrop (tMeth C "go" (spGo K P w C n) [] C8.E0 (tVar 0) (tCons (tVar 9) (tCons (tVar 7) (tCons (tVar 3) (tCons (tVar 4) (tCons (tVar 5) tNil)))))))
    (tAsg (tOp oAdd (tVar 7) (tCall (spSize K 20) [] C8.E0 (tCons (tVar 9) tNil))) (gName 7))))
    (tIfS (tTest (tOp rEq (tVar 6) (tC (.str "call")))) (tDrop (tMeth C "enter" (spEnter K P w C n) [] C8.E0 (tVar 0) (tCons (tDGet (tVar 5) (tOp (rIxT K) (tVar 1) (tC (.int 1)))) (tCons (tVar 4) tNil)))) tNext))))
    { nx := fun _ H' => Q .non H', rt := Q } [some (.ref p), some (.ref t), some (.int num), some (.ref ae), some (.ref ac), some (.ref af), some (.str wd), none, none, none, none] H := by
  have lw1 : 0 < ws.length := List.length_pos_iff.mpr hne
  refine ⟨_, rfl, _, _, rfl, rfl, ?_⟩
  refine ⟨_, rfl, rfl, _, rfl, ifF hnc ?_⟩
  refine ⟨_, rfl, _, rfl, t, _, rfl, hT, ?_, fun t2 ht2 => ?_⟩
  · intro z
    have := z.1
    have e : HT.sIx (V.str wd :: ws).length 0 (some 1) = min 1 (V.str wd :: ws).length := HT.sIx_nat _ _ 1
    rw [e] at this
    simp at this
  have ec : cutV (V.str wd :: ws) (some 1) none = ws := by
    have l1 : (V.str wd :: ws).length = ws.length + 1 := rfl
    show ((V.str wd :: ws).drop (HT.sIx _ 0 (some 1))).take _ = ws
    rw [show HT.sIx (V.str wd :: ws).length 0 (some 1) = min 1 (V.str wd :: ws).length from HT.sIx_nat _ _ 1, HT.sIx_none, l1, show min 1 (ws.length + 1) = 1 by omega]
    simp
  rw [ec]
  have f1 : Fr c0 H (upd H t2 (.tup ws)) := Fr.new ht2
  refine ⟨t2, rfl, ⟨ws, SqT.of upd_same⟩, ?_⟩
  refine keep_lc (b := bNum wd) (by show 9 < 11; decide) (SqT.of upd_same) (by omega) (fun x H' Q' f' hQ => ⟨_, rfl, rfl, _, rfl, hQ⟩) fun L H2 hL eL f2 => ?_
  have f12 := f1.trans f2
  have nL : ¬ D3 nd md kd L := fun z => by
    have h0 := f1.free _ hL
    obtain ⟨L1, e1, _⟩ := B.near.ex
    obtain ⟨L2, e2, _⟩ := B.may.ex
    obtain ⟨o, ho⟩ := MetAt.there B.met
    rcases z with z | z | z
    · rw [z, e1] at h0; cases h0
    · rw [z, e2] at h0; cases h0
    · rw [z, ho] at h0; cases h0
  have B1 : TabB P w T K H nd md kd (vis ++ [(⟨num, pt, E, fe⟩, F)]) ks [] := ⟨by rw [recsOf_app, show recsOf [((⟨num, pt, E, fe⟩ : Plc), F)] = [] by simp [recsOf, nr], List.append_nil]; exact B.near,
    by rw [recsOf_app, show recsOf [((⟨num, pt, E, fe⟩ : Plc), F)] = [] by simp [recsOf, nr], List.append_nil]; exact B.may, B.met, B.inv.add (O.reg.self) (by rw [nr]; exact fun m v c z => by simp at z), B.n1, B.n2, B.n3⟩
  have o1 := O.d1; have o2 := O.fl; have o3 := O.sz; have o4 := O.cst
  have W2 := W.fr (C := c0) (fun _ _ z => z.elim) f12
  have nocl : decide (V.str wd = V.str "call") = false := hnc
  refine go_kids T (num := num + 1) (d := pt.dpt (dlB fe)) (ns := ns) (v := .ref t) (s8 := none) (s9 := none) (f12.at hp (fun z => z)) (B1.fr f12) eL nL (Dp.sms f12 _ _ dL) W2.e W2.ne W2.c W2.nc W2.f (by omega) (by omega) O.dE O.dF O.env O.rg O.ereg (by omega) kid (by omega) fun H3 new ks' s7 s9' f3 B3 S3 l3 => ?_
  refine ⟨_, rfl, rfl, _, rfl, ifF hnc ?_⟩
  refine k H3 ([(⟨num, pt, E, fe⟩, F)] ++ new) ks' (f12.of0.trans f3) (by rw [← List.append_assoc]; exact B3) (SeqP.wrap (by rw [es]; exact S3)) (by omega)
end BN
namespace BN
open PySem L2 PyProof.Rows
open BNQ (kvE srtE TupsAt MetAt MetV)
theorem plcs_at (E : BF) (fe : List FB) : ∀ {as : Parts} {n i : Nat} {q : Part}, as.list[i]? = some q → ∀ x ∈ plc q (n + ((as.list.take i).map Part.size).sum) E fe, x ∈ plcs as n E fe
  | .nil, n, i, q, h, x, _ => by simp [Parts.list] at h
  | .cons p r, n, 0, q, h, x, hx => by
    have e : p = q := by simpa [Parts.list] using h
    subst e
    simp only [plcs, List.mem_append]
    exact .inl (by simpa using hx)
  | .cons p r, n, i + 1, q, h, x, hx => by
    simp only [plcs, List.mem_append]
    refine .inr (plcs_at E fe (as := r) (n := n + p.size) (i := i) (by simpa [Parts.list] using h) x ?_)
    simpa [Parts.list, Nat.add_assoc] using hx
theorem parts_size : ∀ as : Parts, as.size = (as.list.map Part.size).sum
  | .nil => by simp [Parts.size, Parts.list]
  | .cons p r => by simp [Parts.size, Parts.list, parts_size r]
theorem parts_vstS (d : Str → Nat) : ∀ as : Parts, as.vst d = (as.list.map fun q => q.vst d).sum
  | .nil => by simp [Parts.vst, Parts.list]
  | .cons p r => by simp [Parts.vst, Parts.list, parts_vstS d r]
def t_go (K : PySem.W.Frag) (P : Program) (w : World) (cLkr : Addr) (n : Nat) : TS :=
  (tSeq (tAsg (tOp (rIxT K) (tVar 1) (tC (.int 0))) (gName 6))
    (tIfS (tTest (tOp rEq (tVar 6) (tC (.str "name")))) (tDrop (tMeth cLkr "see" (spSee K cLkr) [] C8.E0 (tVar 0) (tCons (tVar 2) (tCons (tDGet (tVar 3) (tOp (rIxT K) (tVar 1) (tC (.int 1)))) (tCons (tDGet (tVar 4) (tOp (rIxT K) (tVar 1) (tC (.int 1)))) tNil))))) (tIfS (tTest (tOp rEq (tVar 6) (tC (.str "let")))) (tSeq (tDrop (tMeth cLkr "go" (spGo K P w cLkr n) [] C8.E0 (tVar 0) (tCons (tOp (rIxT K) (tVar 1) (tC (.int 2))) (tCons (tOp oAdd (tVar 2) (tC (.int 1))) (tCons (tVar 3) (tCons (tVar 4) (tCons (tVar 5) tNil)))))))
    (tSeq (tAsg (tOp oAdd (tOp oAdd (tVar 2) (tC (.int 1))) (tCall (spSize K 20) [] C8.E0 (tCons (tOp (rIxT K) (tVar 1) (tC (.int 2))) tNil))) (gName 7))
    (tDrop (tMeth cLkr "go" (spGo K P w cLkr n) [] C8.E0 (tVar 0) (tCons (tOp (rIxT K) (tVar 1) (tC (.int 3))) (tCons (tVar 7) (tCons (tCall spWith1 [] C8.E0 (tCons (tVar 3) (tCons (tOp (rIxT K) (tVar 1) (tC (.int 1))) (tCons (tVar 2) tNil)))) (tCons (tCall spWith1 [] C8.E0 (tCons (tVar 4) (tCons (tOp (rIxT K) (tVar 1) (tC (.int 1))) (tCons (tVar 2) tNil)))) (tCons (tVar 5) tNil))))))))) (tIfS (tTest (tOp rEq (tVar 6) (tC (.str "fun")))) (tSeq (tAsg (tCB rDictD (tCons (tVar 5) tNil)) (gName 8))
    (tSeq (sDPut (tVar 8) (tOp (rIxT K) (tVar 1) (tC (.int 1))) (tTup (tCons (tVar 2) (tCons (tVar 1) (tCons (tVar 3) (tCons (tVar 5) tNil))))))
    (tDrop (tMeth cLkr "go" (spGo K P w cLkr n) [] C8.E0 (tVar 0) (tCons (tOp (rIxT K) (tVar 1) (tC (.int 4))) (tCons (tOp oAdd (tOp oAdd (tVar 2) (tC (.int 1))) (tCall (spSize K 20) [] C8.E0 (tCons (tOp (rIxT K) (tVar 1) (tC (.int 3))) tNil))) (tCons (tVar 3) (tCons (tVar 4) (tCons (tVar 8) tNil))))))))) (tSeq (tAsg (tOp oAdd (tVar 2) (tC (.int 1))) (gName 7))
    (tSeq (tAsg (tIf (tTest (tOp rEq (tVar 6) (tC (.str "call")))) (tCB (rListSq K) (tCons (tOp (rIxT K) (tVar 1) (tC (.int 2))) tNil)) (tLc (iTup K (tSl (rSlT K) (tVar 1) (tPart (tC (.int 1))) tNoPart)) (gName 9) (tTest (tOp rNe (tVar 6) (tC (.str "num")))) (tVar 9) [9])) (gName 10))
    (tSeq (tFor (iList K (tVar 10)) (gName 9) (tSeq (tDrop (tMeth cLkr "go" (spGo K P w cLkr n) [] C8.E0 (tVar 0) (tCons (tVar 9) (tCons (tVar 7) (tCons (tVar 3) (tCons (tVar 4) (tCons (tVar 5) tNil)))))))
    (tAsg (tOp oAdd (tVar 7) (tCall (spSize K 20) [] C8.E0 (tCons (tVar 9) tNil))) (gName 7))))
    (tIfS (tTest (tOp rEq (tVar 6) (tC (.str "call")))) (tDrop (tMeth cLkr "enter" (spEnter K P w cLkr n) [] C8.E0 (tVar 0) (tCons (tDGet (tVar 5) (tOp (rIxT K) (tVar 1) (tC (.int 1)))) (tCons (tVar 4) tNil)))) tNext))))))))
theorem pure_go {K : PySem.W.Frag} {P : Program} {w : World} {C : Addr} {n : Nat} (Tk : LkC K C) (vs : List V) (H : Hp) (Q : VK) (X : XK) (h : spGo K P w C (n + 1) vs H Q X) :
    t_go K P w C n { nx := fun _ H' => Q .non H', rt := Q } (start ["self", "part", "number", "near", "called", "funs", "word", "inner", "known", "one", "some"] vs) H := by
  obtain ⟨T, p, dx, nd, md, kd, v, num, ae, ac, af, pt, E, F, fe, ns, vis, ks, rfl, hp, B, W, O, k⟩ := h
  have o1 := O.dp; have o2 := O.d1; have o3 := O.fl; have o4 := O.wid; have o5 := O.dep; have o6 := O.sz; have o7 := O.cst
  have hok := O.ok
  obtain ⟨t, xs, rfl, hT, hx⟩ := inv_head W.v
  refine ⟨_, rfl, t, _, _, _, rfl, rfl, hT, atI_nat (j := 0) rfl, ?_⟩
  have nogo : (flL nd md kd).lookup ("go" : Str) = none := flL_no _ _ _ (by decide +kernel) (by decide +kernel) (by decide +kernel)
  have nosee : (flL nd md kd).lookup ("see" : Str) = none := flL_no _ _ _ (by decide +kernel) (by decide +kernel) (by decide +kernel)
  have noent : (flL nd md kd).lookup ("enter" : Str) = none := flL_no _ _ _ (by decide +kernel) (by decide +kernel) (by decide +kernel)
  have hpD : ∀ a, D3 nd md kd a → a ≠ p := fun a z e => by
    obtain ⟨L1, e1, _⟩ := B.near.ex
    obtain ⟨L2, e2, _⟩ := B.may.ex
    rcases z with z | z | z
    · rw [← e, z, e1] at hp; cases hp
    · rw [← e, z, e2] at hp; cases hp
    · obtain ⟨xs, _, h | ⟨_, h⟩, _⟩ := B.met.ex
      · rw [← e, z, h] at hp; cases hp
      · rw [← e, z, h] at hp; cases hp
  have fresh : ∀ {H1 : Hp}, Fr c0 H H1 → ∀ q : Addr, H1 q = none → ¬ D3 nd md kd q := fun f q hq z => by
    have hq6 := f.free _ hq
    obtain ⟨L, hL, _⟩ := B.near.ex
    obtain ⟨L', hL', _⟩ := B.may.ex
    obtain ⟨o, ho⟩ := MetAt.there B.met
    rcases z with z | z | z
    · rw [z, hL] at hq6; cases hq6
    · rw [z, hL'] at hq6; cases hq6
    · rw [z, ho] at hq6; cases hq6
  cases pt with
  | num m =>
    obtain ⟨t', e, hT3⟩ := inv_num W.v
    cases e
    refine ⟨_, rfl, rfl, _, rfl, ifF (by kernel_rfl) ⟨_, rfl, rfl, _, rfl, ifF (by kernel_rfl) ⟨_, rfl, rfl, _, rfl, ifF (by kernel_rfl) ?_⟩⟩⟩
    exact flat_tail T (ws := [.int m]) (qs := []) (wd := "num") (by kernel_rfl) hT3 (by show 1 ≤ 10; decide) (by simp) (by rw [show bNum "num" = false by kernel_rfl]; exact .nil) hp B W O rfl rfl rfl (by simp) (fun i q h => by simp at h) k
  | name x =>
    obtain ⟨t', e, hT3⟩ := inv_name W.v
    cases e
    simp only [Part.ok] at hok
    obtain ⟨E1, hE1, ndE, relE, _⟩ := W.e.ex
    obtain ⟨E2, hE2, ndC, relC, _⟩ := W.c.ex
    obtain ⟨ve, he⟩ := Option.isSome_iff_exists.mp (O.dE x hok)
    obtain ⟨vc, hc⟩ := Option.isSome_iff_exists.mp (O.dF x hok)
    have r1 := relE x
    have r2 := relC x
    rw [he] at r1
    rw [hc] at r2
    have hrc := O.rg x vc hc
    have rc : recC (⟨num, .name x, E, fe⟩, F) = [(num, ve, vc)] := by simp [recC, he, hc]
    have szn : num < 200 := by simp only [Part.size] at o6; omega
    refine ⟨_, rfl, rfl, _, rfl, ifT (by kernel_rfl) ?_⟩
    refine ⟨_, rfl, p, dx, _, rfl, hp, nosee, _, rfl, _, rfl, _, rfl, t, _, _, _, rfl, rfl, hT3, rfl, ae, _, rfl, by have := DGet.k (k := Sum.inr x) hE1; rw [r1] at this; exact this, ?_⟩
    refine ⟨_, rfl, _, rfl, t, _, _, _, rfl, rfl, hT3, rfl, ac, _, rfl, by have := DGet.k (k := Sum.inr x) hE2; rw [r2] at this; exact this, ?_⟩
    refine ⟨p, dx, nd, md, kd, num, ve, vc, recsOf vis, rfl, hp, B.n1, B.near, B.may, B.inv.rok, szn, hrc.1, hrc.2, fun v' c' h' => ?_, MetAt.there B.met, fun H1 f1 N1 M1 => ?_⟩
    · obtain ⟨kk, hk, r⟩ := List.mem_flatMap.mp h'
      obtain ⟨x', e1, e2⟩ := rec_inv r
      have t1 := B.inv.reg kk hk
      have em : num = kk.1.n := (Prod.mk.inj e2).1
      rw [← em, O.reg.self] at t1
      have t1 := Option.some.inj t1
      have e3 := (Prod.mk.inj (Prod.mk.inj e2).2).1
      rw [← t1] at e1 e3
      cases e1
      rw [e3]
      show (E x).getD 0 = ve
      rw [he]; rfl
    · have er : recsOf (vis ++ [(⟨num, .name x, E, fe⟩, F)]) = recsOf vis ++ [(num, ve, vc)] := by rw [recsOf_app]; simp [recsOf, rc]
      refine k H1 [(⟨num, .name x, E, fe⟩, F)] ks (f1.mono fun a _ z => z.elim .inl fun z => .inr (.inl z)) ⟨by rw [er]; exact N1, by rw [er]; exact M1, MetAt.fr (fun _ z => z.elim (fun z => B.n2 z.symm) fun z => B.n3 z.symm) f1 B.met, B.inv.add O.reg.self (by rw [rc]; exact fun m v c z => by cases List.mem_singleton.mp z; exact ⟨szn, hrc⟩), B.n1, B.n2, B.n3⟩ ?_ (by omega)
      have := SeqP.wrap (c := (⟨num, .name x, E, fe⟩, F)) (vis := vis) (new := []) (by rw [show succs (⟨num, .name x, E, fe⟩, F) = [] from rfl]; exact SeqP.nil)
      simpa using this
  | say a =>
    obtain ⟨t', va, e, hT3, da⟩ := inv_say W.v
    cases e
    simp only [Part.ok] at hok
    simp only [Part.dpt] at o1 o2
    simp only [Part.wid] at o4
    simp only [Part.dep] at o5
    refine ⟨_, rfl, rfl, _, rfl, ifF (by kernel_rfl) ⟨_, rfl, rfl, _, rfl, ifF (by kernel_rfl) ⟨_, rfl, rfl, _, rfl, ifF (by kernel_rfl) ?_⟩⟩⟩
    refine flat_tail T (ws := [va]) (qs := [a]) (wd := "say") (by kernel_rfl) hT3 (by show 1 ≤ 10; decide) (by simp) (by rw [show bNum "say" = true by kernel_rfl]; exact .cons da .nil) hp B W O rfl rfl (by simp [Part.size]) (by simp [Part.vst]) (fun i q h => ?_) k
    match i, h with
    | 0, h => cases h; exact ⟨hok, by omega, by simp only [Part.dpt]; omega, by omega, by omega, fun y hy => O.reg y (by simp only [plc, List.mem_cons]; exact .inr (by simpa using hy))⟩
    | i + 1, h => simp at h
  | add a b =>
    obtain ⟨t', va, vb, e, hT3, da, db⟩ := inv_add W.v
    cases e
    simp only [Part.ok] at hok
    simp only [Part.dpt] at o1 o2
    simp only [Part.wid] at o4
    simp only [Part.dep] at o5
    refine ⟨_, rfl, rfl, _, rfl, ifF (by kernel_rfl) ⟨_, rfl, rfl, _, rfl, ifF (by kernel_rfl) ⟨_, rfl, rfl, _, rfl, ifF (by kernel_rfl) ?_⟩⟩⟩
    refine flat_tail T (ws := [va, vb]) (qs := [a, b]) (wd := "add") (by kernel_rfl) hT3 (by show 2 ≤ 10; decide) (by simp) (by rw [show bNum "add" = true by kernel_rfl]; exact .cons da (.cons db .nil)) hp B W O rfl rfl (by simp [Part.size]) (by simp [Part.vst]) (fun i q h => ?_) k
    match i, h with
    | 0, h => cases h; exact ⟨hok.1, by omega, by simp only [Part.dpt]; omega, by omega, by omega, fun y hy => O.reg y (by simp only [plc, List.mem_cons, List.mem_append]; exact .inr (.inl (by simpa using hy)))⟩
    | 1, h => cases h; exact ⟨hok.2, by omega, by simp only [Part.dpt]; omega, by omega, by omega, fun y hy => O.reg y (by simp only [plc, List.mem_cons, List.mem_append]; exact .inr (.inr (by simpa using hy)))⟩
    | i + 2, h => simp at h
  | less a b =>
    obtain ⟨t', va, vb, e, hT3, da, db⟩ := inv_less W.v
    cases e
    simp only [Part.ok] at hok
    simp only [Part.dpt] at o1 o2
    simp only [Part.wid] at o4
    simp only [Part.dep] at o5
    refine ⟨_, rfl, rfl, _, rfl, ifF (by kernel_rfl) ⟨_, rfl, rfl, _, rfl, ifF (by kernel_rfl) ⟨_, rfl, rfl, _, rfl, ifF (by kernel_rfl) ?_⟩⟩⟩
    refine flat_tail T (ws := [va, vb]) (qs := [a, b]) (wd := "less") (by kernel_rfl) hT3 (by show 2 ≤ 10; decide) (by simp) (by rw [show bNum "less" = true by kernel_rfl]; exact .cons da (.cons db .nil)) hp B W O rfl rfl (by simp [Part.size]) (by simp [Part.vst]) (fun i q h => ?_) k
    match i, h with
    | 0, h => cases h; exact ⟨hok.1, by omega, by simp only [Part.dpt]; omega, by omega, by omega, fun y hy => O.reg y (by simp only [plc, List.mem_cons, List.mem_append]; exact .inr (.inl (by simpa using hy)))⟩
    | 1, h => cases h; exact ⟨hok.2, by omega, by simp only [Part.dpt]; omega, by omega, by omega, fun y hy => O.reg y (by simp only [plc, List.mem_cons, List.mem_append]; exact .inr (.inr (by simpa using hy)))⟩
    | i + 2, h => simp at h
  | ite c a b =>
    obtain ⟨t', vc, va, vb, e, hT3, dc, da, db⟩ := inv_ite W.v
    cases e
    simp only [Part.ok] at hok
    simp only [Part.dpt] at o1 o2
    simp only [Part.wid] at o4
    simp only [Part.dep] at o5
    refine ⟨_, rfl, rfl, _, rfl, ifF (by kernel_rfl) ⟨_, rfl, rfl, _, rfl, ifF (by kernel_rfl) ⟨_, rfl, rfl, _, rfl, ifF (by kernel_rfl) ?_⟩⟩⟩
    refine flat_tail T (ws := [vc, va, vb]) (qs := [c, a, b]) (wd := "if") (by kernel_rfl) hT3 (by show 3 ≤ 10; decide) (by simp) (by rw [show bNum "if" = true by kernel_rfl]; exact .cons dc (.cons da (.cons db .nil))) hp B W O rfl rfl (by simp [Part.size]) (by simp [Part.vst]) (fun i q h => ?_) k
    match i, h with
    | 0, h => cases h; exact ⟨hok.1, by omega, by simp only [Part.dpt]; omega, by omega, by omega, fun y hy => O.reg y (by simp only [plc, List.mem_cons, List.mem_append]; exact .inr (.inl (by simpa using hy)))⟩
    | 1, h => cases h; exact ⟨hok.2.1, by omega, by simp only [Part.dpt]; omega, by omega, by omega, fun y hy => O.reg y (by simp only [plc, List.mem_cons, List.mem_append]; exact .inr (.inr (.inl (by simpa using hy))))⟩
    | 2, h => cases h; exact ⟨hok.2.2, by omega, by simp only [Part.dpt]; omega, by omega, by omega, fun y hy => O.reg y (by simp only [plc, List.mem_cons, List.mem_append]; exact .inr (.inr (.inr (by simpa [Nat.add_assoc] using hy))))⟩
    | i + 3, h => simp at h
  | lt x a b =>
    obtain ⟨t', va, vb, e, hT3, da, db⟩ := inv_lt W.v
    cases e
    simp only [Part.ok] at hok
    have e1 : (Part.lt x a b).dpt (dlB fe) = 1 + max (a.dpt (dlB fe)) (b.dpt (dlB fe)) := by simp [Part.dpt]
    have e2 : (Part.lt x a b).vst (vsB fe) = a.vst (vsB fe) + b.vst (vsB fe) := by simp [Part.vst]
    rw [e1] at o1 o2 o3
    rw [e2] at o7
    simp only [Part.wid] at o4
    simp only [Part.dep] at o5
    simp only [Part.size] at o6
    have B1 : TabB P w T K H nd md kd (vis ++ [(⟨num, .lt x a b, E, fe⟩, F)]) ks [] := ⟨by rw [recsOf_app, show recsOf [((⟨num, .lt x a b, E, fe⟩ : Plc), F)] = [] from rfl, List.append_nil]; exact B.near,
      by rw [recsOf_app, show recsOf [((⟨num, .lt x a b, E, fe⟩ : Plc), F)] = [] from rfl, List.append_nil]; exact B.may, B.met, B.inv.add O.reg.self (fun m v c z => by cases z), B.n1, B.n2, B.n3⟩
    refine ⟨_, rfl, rfl, _, rfl, ifF (by kernel_rfl) ⟨_, rfl, rfl, _, rfl, ifT (by kernel_rfl) ?_⟩⟩
    refine ⟨_, rfl, p, dx, _, rfl, hp, nogo, _, rfl, t, _, _, _, rfl, rfl, hT3, rfl, _, rfl, _, _, rfl, rfl, _, rfl, _, rfl, _, rfl, ?_⟩
    have ma : bdN ((Part.lt x a b).dpt (dlB fe)) ≤ bdN (a.dpt (dlB fe)) := Nat.sub_le_sub_left (by rw [e1]; omega) _
    have mb : bdN ((Part.lt x a b).dpt (dlB fe)) + 1 ≤ bdN (b.dpt (dlB fe)) := by
      show 50000 - 13 * (Part.lt x a b).dpt (dlB fe) + 1 ≤ 50000 - 13 * b.dpt (dlB fe)
      rw [e1]; omega
    have m0 : bdN ((Part.lt x a b).dpt (dlB fe)) ≤ 100000 := Nat.le_trans (Nat.sub_le _ _) (by decide)
    refine ⟨T, p, dx, nd, md, kd, va, num + 1, ae, ac, af, a, E, F, fe, ns, _, ks, rfl, hp, B1.pend _, ⟨da, W.e.mono ma, W.ne, W.c.mono ma, W.nc, W.f⟩,
      ⟨hok.2.1, O.dE, O.dF, O.env, by omega, by omega, by omega, by omega, by omega, by omega, O.rg, fun y hy => O.reg y (by simp only [plc, List.mem_cons, List.mem_append]; exact .inr (.inl hy)), O.ereg, by omega⟩, fun H1 new1 ks1 f1 B2 S1 l1 => ?_⟩
    have hp1 := f1.at hp (fun z => hpD p z rfl)
    have hT4 := f1.sqT hT3
    refine ⟨_, rfl, _, _, rfl, rfl, _, rfl, t, _, _, _, rfl, rfl, hT4, rfl, va, a, rfl, Dp.fr f1 _ _ (tup_enc a) da, by omega, by omega, fun H2 f2 => ⟨_, _, rfl, rfl, ?_⟩⟩
    have f12 := f1.trans f2.of0
    have W2 := W.fr cD_dK f12
    have hp2 := f2.at hp1 (fun z => z)
    have hT5 := f2.sqT hT4
    refine ⟨_, rfl, p, dx, _, rfl, hp2, nogo, _, rfl, t, _, _, _, rfl, rfl, hT5, rfl, _, rfl, ?_⟩
    refine ⟨_, rfl, _, rfl, t, _, _, _, rfl, rfl, hT5, rfl, _, rfl, ae, x, (num : Int), E, _, rfl, W2.e, m0, fun p5 H3 f3 hp5 b5 => ?_⟩
    have W3 := W2.fr (C := c0) (fun _ _ z => z.elim) f3
    refine ⟨_, rfl, _, rfl, t, _, _, _, rfl, rfl, f3.sqT hT5, rfl, _, rfl, ac, x, (num : Int), F, _, rfl, W3.c, m0, fun p2 H4 f4 hp2' c5 => ?_⟩
    have W4 := W3.fr (C := c0) (fun _ _ z => z.elim) f4
    have f24 := f3.trans f4
    have frD : ∀ {H' : Hp}, Fr (cD (D3 nd md kd)) H H' → ∀ q : Addr, H' q = none → ¬ D3 nd md kd q := fun f q hq z => by
      have hq6 := f.free _ hq
      obtain ⟨L, hL, _⟩ := B.near.ex
      obtain ⟨L', hL', _⟩ := B.may.ex
      obtain ⟨o, ho⟩ := MetAt.there B.met
      rcases z with z | z | z
      · rw [z, hL] at hq6; cases hq6
      · rw [z, hL'] at hq6; cases hq6
      · rw [z, ho] at hq6; cases hq6
    have n5 := frD f12 p5 hp5
    have n2 := frD (f12.trans f3.of0) p2 hp2'
    refine ⟨_, rfl, T, p, dx, nd, md, kd, vb, num + 1 + a.size, p5, p2, af, b, putB E x num, putB F x num, fe, ns ++ [x], _, ks1, rfl, f24.at hp2 (fun z => z), (B2.fr (f2.trans f24)).pend _, ⟨Dp.fr (f12.trans f24.of0) _ _ (tup_enc b) db, (b5.fr (C := c0) (fun _ z => z) f4).mono mb, n5, c5.mono mb, n2, W4.f⟩,
      ⟨hok.2.2, O.dE.put _ _, O.dF.put _ _, O.env.mono fun y hy => putB_some y hy, by omega, by omega, by omega, by omega, by omega, by omega, fun y v hv => ?_, fun y hy => O.reg y (by simp only [plc, List.mem_cons, List.mem_append]; exact .inr (.inr hy)), O.ereg, by omega⟩, fun H5 new2 ks2 f5 B5 S5 l5 => ?_⟩
    · unfold putB at hv
      split at hv
      · cases hv; omega
      · exact O.rg y v hv
    · refine k H5 ([(⟨num, .lt x a b, E, fe⟩, F)] ++ (new1 ++ new2)) ks2 ((f12.trans f24.of0).trans f5) (by rw [← List.append_assoc, ← List.append_assoc]; exact B5) (SeqP.wrap ?_) (by rw [e2]; omega)
      exact SeqP.app S1 S5
  | fn f ps b r =>
    obtain ⟨t', tp, vb, vr, e, hT3, hTp, db, dr⟩ := inv_fn W.v
    cases e
    simp only [Part.ok] at hok
    have e1 : (Part.fn f ps b r).dpt (dlB fe) = 1 + max (b.dpt (dlB fe)) (r.dpt (putD (dlB fe) f (b.dpt (dlB fe)))) := by simp [Part.dpt]
    have e2 : (Part.fn f ps b r).vst (vsB fe) = r.vst (putD (vsB fe) f (b.vst (vsB fe))) := by simp [Part.vst]
    rw [e1] at o1 o2 o3
    rw [e2] at o7
    simp only [Part.wid] at o4
    simp only [Part.dep] at o5
    simp only [Part.size] at o6
    have B1 : TabB P w T K H nd md kd (vis ++ [(⟨num, .fn f ps b r, E, fe⟩, F)]) ks [] := ⟨by rw [recsOf_app, show recsOf [((⟨num, .fn f ps b r, E, fe⟩ : Plc), F)] = [] from rfl, List.append_nil]; exact B.near,
      by rw [recsOf_app, show recsOf [((⟨num, .fn f ps b r, E, fe⟩ : Plc), F)] = [] from rfl, List.append_nil]; exact B.may, B.met, B.inv.add O.reg.self (fun m v c z => by cases z), B.n1, B.n2, B.n3⟩
    refine ⟨_, rfl, rfl, _, rfl, ifF (by kernel_rfl) ⟨_, rfl, rfl, _, rfl, ifF (by kernel_rfl) ⟨_, rfl, rfl, _, rfl, ifT (by kernel_rfl) ?_⟩⟩⟩
    obtain ⟨kvs, hk, hkl⟩ := W.f.dict
    refine ⟨_, rfl, af, kvs, rfl, .inl hk, fun kn hkn => ?_⟩
    have f1 : Fr c0 H (upd H kn (.dK kvs)) := Fr.new hkn
    have hT4 := f1.sqT hT3
    refine ⟨_, rfl, _, rfl, _, rfl, _, rfl, one_sz (by show 4 ≤ 1000; decide), fun tt htt => ?_⟩
    have f2 : Fr c0 (upd H kn (.dK kvs)) (upd (upd H kn (.dK kvs)) tt (.tup [.int num, .ref t, .ref ae, .ref af])) := Fr.new htt
    have nkt : kn ≠ tt := ne_of_none upd_same htt
    refine ⟨_, rfl, _, rfl, t, _, _, _, rfl, rfl, f2.sqT hT4, rfl, kn, _, rfl, DPut.k (k := Sum.inr f) (by rw [upd_ne nkt, upd_same]) (Nat.lt_of_lt_of_le (m := 2000) (by omega) (by rw [sizeLine_eq]; decide)), ?_⟩
    have f3 : Fr c0 H (upd (upd (upd H kn (.dK kvs)) tt (.tup [.int num, .ref t, .ref ae, .ref af])) kn (.dK (putK kvs (Sum.inr f) (.ref tt)))) := (f1.trans f2).fresh hkn
    have htt3 : (upd (upd (upd H kn (.dK kvs)) tt (.tup [.int num, .ref t, .ref ae, .ref af])) kn (.dK (putK kvs (Sum.inr f) (.ref tt)))) tt = some (.tup [.int num, .ref t, .ref ae, .ref af]) := by rw [upd_ne nkt.symm, upd_same]
    have hkn3 : (upd (upd (upd H kn (.dK kvs)) tt (.tup [.int num, .ref t, .ref ae, .ref af])) kn (.dK (putK kvs (Sum.inr f) (.ref tt)))) kn = some (.dK (putK kvs (Sum.inr f) (.ref tt))) := upd_same
    generalize (upd (upd (upd H kn (.dK kvs)) tt (.tup [.int num, .ref t, .ref ae, .ref af])) kn (.dK (putK kvs (Sum.inr f) (.ref tt)))) = H3 at f3 htt3 hkn3 ⊢
    have W3 := W.fr (C := c0) (fun _ _ z => z.elim) f3
    have hT5 := f3.sqT hT3
    have mr : bdN ((Part.fn f ps b r).dpt (dlB fe)) ≤ bdN (r.dpt (putD (dlB fe) f (b.dpt (dlB fe)))) := Nat.sub_le_sub_left (by rw [e1]; omega) _
    have mb : bdN ((Part.fn f ps b r).dpt (dlB fe)) ≤ bdN (1 + b.dpt (dlB fe)) := Nat.sub_le_sub_left (by rw [e1]; omega) _
    refine ⟨_, rfl, p, dx, _, rfl, f3.at hp (fun z => z), nogo, _, rfl, t, _, _, _, rfl, rfl, hT5, rfl, _, rfl, _, _, rfl, rfl, _, rfl, t, _, _, _, rfl, rfl, hT5, rfl, vb, b, rfl, Dp.fr f3 _ _ (tup_enc b) db, by omega, by omega, fun H4 f4 => ⟨_, _, rfl, rfl, ?_⟩⟩
    have f34 := f3.trans f4
    have W4 := W.fr (C := c0) (fun _ _ z => z.elim) f34
    refine ⟨_, rfl, _, rfl, _, rfl, T, p, dx, nd, md, kd, vr, num + 1 + b.size, ae, ac, kn, r, E, F, ⟨num, f, ps, b, r, E⟩ :: fe, ns, _, ks, rfl, f34.at hp (fun z => z), (B1.fr f34).pend _,
      ⟨Dp.fr f34 _ _ (tup_enc r) dr, W4.e.mono mr, W4.ne, W4.c.mono mr, W4.nc, ⟨af, tt, ae, .ref t, kvs, W4.f, f34.at hk (fun z => z), f4.at hkn3 (fun z => z), fresh (Fr.refl _) kn hkn, SqT.of (f4.tup htt3), W4.v, W4.e.mono mb, W4.ne⟩⟩,
      ⟨hok.2.2.2.2.2, O.dE, O.dF, ⟨O.env, ns, O.dF, O.dE, hok.2.2.2.2.1, hok.2.1, by show fe.length + b.dpt (dlB fe) ≤ 1000; omega, by show b.wid ≤ 1000; omega, by show b.dep ≤ 20; omega, by show num + 1 + b.size ≤ 200; omega⟩, by simp only [dlB]; omega, by simp only [dlB]; omega, by simp only [dlB, List.length_cons]; omega, by omega, by omega, by omega, O.rg,
        fun y hy => O.reg y (by simp only [plc, List.mem_cons, List.mem_append]; exact .inr (.inr hy)), ⟨O.reg.self, fun y hy => O.reg y (by simp only [plc, List.mem_cons, List.mem_append]; exact .inr (.inl hy)), O.ereg⟩, by simp only [vsB]; omega⟩, fun H5 new ks' f5 B5 S5 l5 => ?_⟩
    refine k H5 ([(⟨num, .fn f ps b r, E, fe⟩, F)] ++ new) ks' (f34.of0.trans f5) (by rw [← List.append_assoc]; exact B5) (SeqP.wrap (c := (⟨num, .fn f ps b r, E, fe⟩, F)) S5) (by rw [e2]; simpa only [vsB] using l5)
  | call f as =>
    obtain ⟨t', ta, ws, e, hT3, hA, da⟩ := inv_call W.v
    cases e
    simp only [Part.ok] at hok
    have e1 : (Part.call f as).dpt (dlB fe) = 2 + max (as.dpt (dlB fe)) (dlB fe f) := by simp [Part.dpt]
    have e2 : (Part.call f as).vst (vsB fe) = as.vst (vsB fe) + vsB fe f + 1 := by simp [Part.vst]
    have e3 := parts_vstS (vsB fe) as
    have e4 := parts_size as
    rw [e1] at o1 o2 o3
    rw [e2] at o7
    simp only [Part.wid] at o4
    simp only [Part.dep] at o5
    simp only [Part.size] at o6
    have B1 : TabB P w T K H nd md kd (vis ++ [(⟨num, .call f as, E, fe⟩, F)]) ks [] := ⟨by rw [recsOf_app, show recsOf [((⟨num, .call f as, E, fe⟩ : Plc), F)] = [] from rfl, List.append_nil]; exact B.near,
      by rw [recsOf_app, show recsOf [((⟨num, .call f as, E, fe⟩ : Plc), F)] = [] from rfl, List.append_nil]; exact B.may, B.met, B.inv.add O.reg.self (fun m v c z => by cases z), B.n1, B.n2, B.n3⟩
    refine ⟨_, rfl, rfl, _, rfl, ifF (by kernel_rfl) ⟨_, rfl, rfl, _, rfl, ifF (by kernel_rfl) ⟨_, rfl, rfl, _, rfl, ifF (by kernel_rfl) ?_⟩⟩⟩
    refine ⟨_, rfl, _, _, rfl, rfl, ?_⟩
    refine ⟨_, rfl, rfl, _, rfl, ifT (by kernel_rfl) ?_⟩
    refine ⟨_, rfl, t, _, _, _, rfl, rfl, hT3, rfl, ta, _, rfl, .inr hA, fun L hL => ?_⟩
    have f1 : Fr c0 H (upd H L (.lst ws)) := Fr.new hL
    have nL := fresh (Fr.refl _) L hL
    have W1 := W.fr (C := c0) (fun _ _ z => z.elim) f1
    obtain ⟨e, tl, l, efe, ef, hl, hpl, hE, hdl, hvs, hfb⟩ := env_atB hok.1 O.env
    refine go_kids T (num := num + 1) (d := (Part.call f as).dpt (dlB fe)) (ns := ns) (v := .ref t) (s8 := none) (s9 := none) (qs := as.list) (f1.at hp (fun z => z)) (B1.fr f1) upd_same nL (Dp.sms f1 _ _ da) W1.e W1.ne W1.c W1.nc W1.f (by rw [e1]; omega) (by rw [e1]; omega) O.dE O.dF O.env O.rg O.ereg (by omega) (fun i q hq => ?_) (by omega) fun H3 new ks' s7 s9' f3 B3 S3 l3 => ?_
    · have hm := List.mem_of_getElem? hq
      have d1 := dpt_list (d := dlB fe) hm
      have w1 := wid_list as q hm
      have p1 := dep_list as q hm
      exact ⟨parts_in hok.2 q hm, by omega, by rw [e1]; omega, by omega, by omega, fun y hy => O.reg y (by simp only [plc, List.mem_cons]; exact .inr (plcs_at E fe hq y hy))⟩
    · have f13 := f1.of0.trans f3
      have W3 := W.fr cD_dK f13
      have hp3 := f13.at hp (fun z => hpD p z rfl)
      have hF3 := W3.f
      rw [efe] at hF3
      obtain ⟨kvs, kn, tt, ne, vp, g1, g2, g3, g4, g5, g6, g7⟩ := FunsB.get hF3 fun x hx => by rw [ef]; exact hl x hx
      rw [ef] at g2
      have mc : bdN ((Part.call f as).dpt (dlB fe)) ≤ bdN (1 + e.b.dpt (dlB tl)) := Nat.sub_le_sub_left (by rw [e1]; omega) _
      refine ⟨_, rfl, rfl, _, rfl, ifT (by kernel_rfl) ?_⟩
      refine ⟨_, rfl, p, dx, _, rfl, hp3, noent, _, rfl, _, rfl, t, _, _, _, rfl, rfl, f13.sqT hT3, rfl, af, _, rfl, by have := DGet.k (k := Sum.inr f) g1; rw [g2] at this; exact this, _, rfl, ?_⟩
      refine ⟨T, p, dx, nd, md, kd, tt, kn, ne, ac, vp, e, tl, F, _, ks', rfl, hp3, B3, g4, g5, g6, g7, W3.c.mono mc, W3.nc, g3, hE, EnvR.tail (l := l) (efe ▸ O.ereg), by omega, O.rg, by omega, fun H4 new2 ks2 f4 B4 S4 l4 => ?_⟩
      refine k H4 ([(⟨num, .call f as, E, fe⟩, F)] ++ (new ++ new2)) ks2 (f13.trans f4) (by rw [← List.append_assoc, ← List.append_assoc]; exact B4) (SeqP.wrap (c := (⟨num, .call f as, E, fe⟩, F)) ?_) (by rw [e2]; omega)
      have es : succs (⟨num, .call f as, E, fe⟩, F) = argL as.list (num + 1) E fe F ++ [bodyC e tl F] := by simp only [succs, callC, hfb, argL_list]
      rw [es]
      exact SeqP.app S3 S4
end BN
namespace BN
open PySem L2 PyProof.Rows
open BNQ (kvE srtE TupsAt MetAt MetV)
/-! ### the looker behind a program -/
def rootF (ins : List Str) : BF := fun x => if x ∈ ins then some (-1) else none
abbrev rootC (ins : List Str) (pt : Part) : Conf := (⟨0, pt, rootF ins, []⟩, rootF ins)
def SeenV (ins : List Str) (pt : Part) : Rec → Prop := fun r => ∃ k, Rch (rootC ins pt) k ∧ r ∈ recC k
structure AllB (ins : List Str) (pt : Part) : Prop where
  ok : ProgOk ins pt
  dp : pt.dpt (fun _ => 0) ≤ 130
  vst : pt.vst (fun _ => 0) ≤ 15000000
theorem Drawn.allB {d : Int} {ins : List Str} {p : Part} (h : Drawn d ins p) (h5 : d ≤ 5) : AllB ins p := by
  have := h.dpt h5
  have := h.vst h5
  exact ⟨h.okP h5, by omega, by omega⟩
abbrev rootT (ins : List Str) (pt : Part) : TT' := tab (plc pt 0 (rootF ins) [])
theorem seq_root {c : Conf} {new : List Conf} (S : SeqP [c] [] new) (r : Rec) : r ∈ recsOf new ↔ ∃ k, Rch c k ∧ r ∈ recC k := by
  constructor
  · intro h
    obtain ⟨k, hk, q⟩ := List.mem_flatMap.mp h
    obtain ⟨d, hd, rr⟩ := S.rch k hk
    rw [List.mem_singleton.mp hd] at rr
    exact ⟨k, rr, q⟩
  · rintro ⟨k, rr, q⟩
    exact List.mem_flatMap.mpr ⟨k, closed_all (by simpa using S.all c (by simp)) (fun k hk s hs => by simpa using S.clo k hk s hs) rr, q⟩
theorem Fr.local' {C : CP} {H H1 H2 : Hp} (a : Fr c0 H H1) (b : Fr C H1 H2) (h : ∀ a o, C a o → H a = none) : Fr c0 H H2 :=
  ⟨fun x o e _ => b.keep x o (a.at e (fun z => z)) fun z => (by rw [h x o z.1] at e; cases e), fun x e => a.free _ (b.free _ e)⟩
theorem rootF_rel {ins : List Str} (nd : ins.Nodup) : BRel ((ins.zip (ins.map fun _ => (-1 : Int))).map kvE) (rootF ins) := fun x => by
  have key : ∀ l : List Str, valV ((l.zip (l.map fun _ => (-1 : Int))).map kvE) (Sum.inr x) = (rootF l x).map V.int := fun l => by
    induction l with
    | nil => rfl
    | cons a r ih =>
      rw [List.map_cons, List.zip_cons_cons, List.map_cons]
      by_cases e : a = x
      · subst e; rw [valV_pos rfl]; simp [rootF]
      · rw [valV_neg (by simpa [kvE] using e), ih]
        have : ¬ x = a := fun z => e z.symm
        simp [rootF, this]
  exact key ins
theorem root_dict {K : PySem.W.Frag} {H : Hp} {D : Addr} {vs : List V} {ds : List PyData} {ins : List Str} {Q : VK} (nd : ins.Nodup) (e : H D = some (.lst vs)) (da : DpAll K H vs ds) (dl : ds.length = ins.length) (dg : ∀ (k : Nat) (d : PyData), ds[k]? = some d → ∃ x, ins[k]? = some x ∧ d = .tuple [.str x, .int (-1)])
    (q : ∀ p H', Fr c0 H H' → H p = none → BdAt H' p (rootF ins) ins.length → Q (.ref p) H') : rDictP K [.ref D] H Q := by
  obtain ⟨ts, rfl, h2, h3⟩ := refs_of (F := fun i d => ∃ x, ins[i]? = some x ∧ d = .tuple [.str x, .int (-1)]) da (fun k d hk => dg k d hk) fun k d ⟨x, _, e⟩ => ⟨_, e⟩
  have hl : ins.length = (ins.map fun _ => (-1 : Int)).length := by simp
  refine ⟨D, ts, roomK (ins.zip (ins.map fun _ => (-1 : Int))), rfl, SqL.of e, ?_, fun p hp => ?_⟩
  · refine paired_of (by unfold roomK; rw [List.length_map, List.length_zip]; simp; omega) fun j t kv e1 e2 => ?_
    obtain ⟨xs, l, g1, g2, x, g3, g5⟩ := h3 j t e1
    cases g5
    obtain ⟨a, b, rfl, d1, d2⟩ := all2 g2
    cases d1; cases d2
    unfold roomK at e2
    obtain ⟨⟨a, b⟩, g6, rfl⟩ := map_at e2
    rw [List.getElem?_zip_eq_some] at g6
    rw [g3, List.getElem?_map, g3] at g6
    cases g6.1; cases g6.2
    exact g1
  · rw [merge_zip nd hl]
    refine q p _ (Fr.new hp) hp ⟨ins.zip (ins.map fun _ => (-1 : Int)), upd_same, ?_, rootF_rel nd, ?_⟩
    · rw [zip_fst _ _ hl]; exact nd
    · rw [List.length_zip]; omega
def spLooked (K : PySem.W.Frag) (P : Program) (w : World) (C : Addr) : Sp := fun vs H Q _ => ∃ (v : V) (ins : List Str) (pt : Part), vs = [v] ∧ Dp K H v (encP ins pt) ∧ AllB ins pt ∧
  ∀ (p dx nd md kd : Addr) H' (vis : List Conf), Fr c0 H H' → H' p = some (.ins C dx (flL nd md kd)) → NearAt H' nd (recsOf vis) → MayAt (D3 nd md kd) H' md (recsOf vis) → RecOk (recsOf vis) → VReg (rootT ins pt) vis → (∀ r, r ∈ recsOf vis ↔ SeenV ins pt r) → Q (.ref p) H'
def t_looked (K : PySem.W.Frag) (P : Program) (w : World) (cLkr : Addr) : TS :=
  (tSeq (tAsg (tMake cLkr (spLkInit cLkr) [] C8.E0 tNil) (gName 1))
    (tSeq (tAsg (tCB (rDictP K) (tCons (tLc (iTup K (tOp (rIxT K) (tVar 0) (tC (.int 0)))) (gName 3) tYes (tTup (tCons (tVar 3) (tCons (tC (.int (-1))) tNil))) [3]) tNil)) (gName 2))
    (tSeq (tDrop (tMeth cLkr "go" (spGo K P w cLkr 130) [] C8.E0 (tVar 1) (tCons (tOp (rIxT K) (tVar 0) (tC (.int 1))) (tCons (tC (.int 0)) (tCons (tVar 2) (tCons (tVar 2) (tCons tDNewK tNil)))))))
    (tRet (tVar 1)))))
theorem pure_looked {K : PySem.W.Frag} {P : Program} {w : World} {C : Addr} (vs : List V) (H : Hp) (Q : VK) (X : XK) (h : spLooked K P w C vs H Q X) :
    t_looked K P w C { nx := fun _ H' => Q .non H', rt := Q } (start ["program", "looker", "bound", "name"] vs) H := by
  obtain ⟨v, ins, pt, rfl, hd, O, k⟩ := h
  obtain ⟨t, ti, vp, rfl, hT, hI, dp⟩ := inv_P hd
  have oil := O.ok.il
  refine fun p dx np ndx ned => ⟨p, dx, rfl, upd_same, fun nd md kd H1 hnd hmd hkd n1 n2 n3 f1 hp1 e1 e2 e3 => ?_⟩
  have f0 : Fr c0 H (upd (upd H dx (.own p)) p (.ins C dx [])) := (Fr.new ndx).trans (Fr.new (by rw [upd_ne ned.symm]; exact np))
  have f01 : Fr c0 H H1 := Fr.local' f0 f1 fun a o z => by rw [show a = p from z]; exact np
  have fnd := f0.free _ hnd
  have fmd := f0.free _ hmd
  have fkd := f0.free _ hkd
  refine ⟨rfl, _, rfl, t, _, _, _, rfl, rfl, f01.sqT hT, rfl, ti, rfl, ⟨_, f01.sqT hI⟩, ?_⟩
  refine lcG_tup (C := c0) (I := fun _ => True) (Good := fun i d => ∃ x, ins[i]? = some x ∧ d = .tuple [.str x, .int (-1)]) (f01.sqT hI) (fun _ _ _ _ _ => trivial) (fun _ _ _ z => z) trivial (by rw [List.length_map]; omega) (fun i y hy H' f' _ Q' hQ => ?_) fun D us ds H2 hD eD dD dl dg f2 _ => ?_
  · obtain ⟨x, hx, rfl⟩ := map_at hy
    refine ⟨_, rfl, one_sz (Nat.le_of_ble_eq_true rfl), fun u hu => ?_⟩
    exact hQ (.tuple [.str x, .int (-1)]) _ _ ⟨x, hx, rfl⟩ rfl (.tup (SqT.of upd_same) (.cons (.str _) (.cons (.int _) .nil))) (Fr.new hu) trivial
  · rw [List.length_map] at dl
    dsimp only [tNil]
    refine root_dict O.ok.nd eD dD dl (fun k d hk => (dg k d hk).1) fun bd H3 f3 hbd b3 => ?_
    have f03 := (f01.trans f2).trans f3
    have hp3 := (f2.trans f3).at hp1 (fun z => z)
    have e13 := (f2.trans f3).at e1 (fun z => z)
    have e23 := (f2.trans f3).at e2 (fun z => z)
    have e33 := (f2.trans f3).at e3 (fun z => z)
    have nogo : (flL nd md kd).lookup ("go" : Str) = none := flL_no _ _ _ (by decide +kernel) (by decide +kernel) (by decide +kernel)
    refine ⟨_, rfl, p, dx, _, rfl, hp3, nogo, _, rfl, t, _, _, _, rfl, rfl, f03.sqT hT, rfl, _, rfl, _, rfl, fun af haf => ?_⟩
    have f4 : Fr c0 H3 (upd H3 af (.dK [])) := Fr.new haf
    have haf4 : (upd H3 af (.dK [])) af = some (.dK []) := upd_same
    have nf : ∀ a, D3 nd md kd a → a ≠ bd ∧ a ≠ af := fun a z => by
      rcases z with rfl | rfl | rfl
      · exact ⟨fun z => (by rw [← z, f2.at e1 (fun z => z)] at hbd; cases hbd), fun z => (by rw [← z, e13] at haf; cases haf)⟩
      · exact ⟨fun z => (by rw [← z, f2.at e2 (fun z => z)] at hbd; cases hbd), fun z => (by rw [← z, e23] at haf; cases haf)⟩
      · exact ⟨fun z => (by rw [← z, f2.at e3 (fun z => z)] at hbd; cases hbd), fun z => (by rw [← z, e33] at haf; cases haf)⟩
    have b4 := (b3.fr (C := c0) (fun _ z => z) f4).mono (m' := bdN (pt.dpt (fun _ => 0))) (by have := O.dp; show ins.length ≤ 50000 - 13 * _; omega)
    have nB : ¬ D3 nd md kd bd := fun z => (nf _ z).1 rfl
    have dm : dom (rootF ins) ins := fun x hx => by simp [rootF, hx]
    have B4 : TabB P w (rootT ins pt) K (upd H3 af (.dK [])) nd md kd [] [] [] := ⟨⟨[], f4.at e13 (fun z => z), List.nodup_nil, fun m u => by simp [recsOf]⟩, ⟨[], f4.at e23 (fun z => z), List.nodup_nil, fun m => by simp [recsOf], fun m u z => by simp at z⟩, MetAt.nil (f4.at e33 (fun z => z)),
      ⟨fun k z => by simp at z, fun m v c z => by simp [recsOf] at z, fun k z => by simp at z⟩, n1, n2, n3⟩
    have dvp := Dp.fr (f03.trans f4) _ _ (tup_enc pt) dp
    refine ⟨rootT ins pt, p, dx, nd, md, kd, vp, 0, bd, bd, af, pt, rootF ins, rootF ins, [], ins, [], [], rfl, f4.at hp3 (fun z => z), B4.pend _, ⟨dvp, b4, nB, b4, nB, ⟨haf4, fun z => (nf _ z).2 rfl⟩⟩,
      ⟨O.ok.ok, dm, dm, trivial, O.dp, by have := O.dp; show pt.dpt (fun _ => 0) ≤ 1000; omega, by have := O.dp; show 0 + pt.dpt (fun _ => 0) ≤ 1000; omega, by have := O.ok.wid; omega, by have := O.ok.dep; omega, by have := O.ok.sz; omega, fun x v hv => ?_, reg_root _ _ _ _, trivial, by have := O.vst; show 0 + pt.vst (fun _ => 0) ≤ 15000000; omega⟩, fun H5 new ks' f5 B5 S5 l5 => ?_⟩
    · unfold rootF at hv
      split at hv
      · cases hv; omega
      · cases hv
    · rw [List.nil_append] at B5
      have hp5 := f5.at (f4.at hp3 (fun z => z)) (fun z => by
        rcases z with z | z | z
        · rw [← z, hp1] at e1; cases e1
        · rw [← z, hp1] at e2; cases e2
        · rw [← z, hp1] at e3; cases e3)
      refine ⟨_, rfl, k p dx nd md kd H5 new (Fr.local' (f03.trans f4) f5 fun a o z => ?_) hp5 B5.near B5.may B5.inv.rok B5.inv.reg fun r => seq_root S5 r⟩
      rcases z with rfl | rfl | rfl
      · exact fnd
      · exact fmd
      · exact fkd
end BN
namespace BN
open PySem L2 PyProof.Rows
/-! ### binders -/
def encR (r : BRow) : PyData := .tuple [.int (r.1 : Nat), .int r.2.1, .tuple (r.2.2.map .int)]
theorem tup_encR (l : List BRow) : tupDs (l.map encR) = true := tupDs_all fun d hd => by
  obtain ⟨r, _, rfl⟩ := List.mem_map.mp hd
  have := tup_encN1 r.2.2
  simp [encR, encN, tupD, tupDs] at this ⊢
  exact this
theorem rows_of {P : BRow → Prop} : ∀ {ds : List PyData} {ys : List Int}, ds.length = ys.length → (∀ (k : Nat) (d : PyData), ds[k]? = some d → ∃ r : BRow, ys[k]? = some (r.1 : Int) ∧ P r ∧ d = encR r) →
    ∃ rows : List BRow, ds = rows.map encR ∧ (rows.map fun r => (r.1 : Int)) = ys ∧ ∀ r ∈ rows, P r
  | [], [], _, _ => ⟨[], rfl, rfl, fun r h => by simp at h⟩
  | [], _ :: _, h, _ => by simp at h
  | _ :: _, [], h, _ => by simp at h
  | d :: ds, y :: ys, hl, h => by
    obtain ⟨r, e1, e2, e3⟩ := h 0 d rfl
    have e1 : y = (r.1 : Int) := Option.some.inj e1
    obtain ⟨rows, g1, g2, g3⟩ := rows_of (ds := ds) (ys := ys) (by simpa using hl) fun k d hk => h (k + 1) d (by simpa using hk)
    refine ⟨r :: rows, by rw [e3, g1]; rfl, by rw [List.map_cons, g2, e1], fun q hq => ?_⟩
    rcases List.mem_cons.mp hq with rfl | hq
    · exact e2
    · exact g3 q hq
def RowOk (R : List Rec) (r : BRow) : Prop := (∃ c, (r.1, r.2.1, c) ∈ R) ∧ r.2.2.Pairwise (· < ·) ∧ ∀ c, c ∈ r.2.2 ↔ ∃ v, (r.1, v, c) ∈ R
def spBinders (K : PySem.W.Frag) : Sp := fun vs H Q _ => ∃ (v : V) (ins : List Str) (pt : Part), vs = [v] ∧ Dp K H v (encP ins pt) ∧ AllB ins pt ∧
  ∀ D us (rows : List BRow) H', Fr c0 H H' → H D = none → H' D = some (.lst us) → DpAll K H' us (rows.map encR) → IsRows (SeenV ins pt) rows → rows.length ≤ 200 → (∀ r ∈ rows, r.2.2.length ≤ 4000) → Q (.ref D) H'
def t_binders (K : PySem.W.Frag) (P : Program) (w : World) (cLkr : Addr) : TS :=
  (tSeq (tDrop (tCall (spCheckP K) [] C8.E0 (tCons (tVar 0) tNil)))
    (tSeq (tAsg (tCall (spLooked K P w cLkr) [] C8.E0 (tCons (tVar 0) tNil)) (gName 1))
    (tRet (tLc (iList K (tCB BNQ.rSortDI (tCons (tFld K (tVar 1) "near") tNil))) (gName 2) tYes (tTup (tCons (tVar 2) (tCons (tDGet (tFld K (tVar 1) "near") (tVar 2)) (tCons (tCB (rTupSq K) (tCons (tDGet (tFld K (tVar 1) "may") (tVar 2)) tNil)) tNil)))) [2]))))
theorem pure_binders {K : PySem.W.Frag} {P : Program} {w : World} {C : Addr} (Tk : LkC K C) (vs : List V) (H : Hp) (Q : VK) (X : XK) (h : spBinders K vs H Q X) :
    t_binders K P w C { nx := fun _ H' => Q .non H', rt := Q } (start ["program", "looker", "number"] vs) H := by
  obtain ⟨v, ins, pt, rfl, hd, O, k⟩ := h
  refine ⟨_, rfl, v, ins, pt, rfl, hd, O.ok, fun H0 f0 => ?_⟩
  refine ⟨_, rfl, v, ins, pt, rfl, Dp.fr f0 _ _ (tup_encP ins pt) hd, O, fun p dx nd md kd H1 vis f1 hp N M RO VR SV => ?_⟩
  obtain ⟨L, hL, ndL, mL⟩ := N.ex
  obtain ⟨L2, hL2, ndL2, kL2, mL2⟩ := M.ex
  have lL : L.length ≤ 200 := by
    have := nodup_lt 200 ndL fun x hx => by
      obtain ⟨⟨m, u⟩, he, rfl⟩ := List.mem_map.mp hx
      obtain ⟨v', c', _, q⟩ := (mL m u).mp he
      exact (RO _ _ _ q).1
    simpa using this
  refine ⟨_, rfl, p, C, dx, _, _, rfl, hp, Tk.cl, Tk.nN, flL_near _ _ _, nd, kvL L, L.map fun e => ((e.1 : Nat) : Int), rfl, .inl hL, kvL_keys L, by rw [List.length_map]; omega, fun ys sl perm asc hsl => ?_⟩
  have f2 : Fr c0 H1 (upd H1 sl (.lst (ys.map V.int))) := Fr.new hsl
  have yl : ys.length ≤ 200 := by rw [perm.length_eq, List.length_map]; exact lL
  have ndy : ys.Nodup := perm.nodup_iff.mpr (by
    have : (L.map fun e => ((e.1 : Nat) : Int)) = (L.map (·.1)).map (fun n : Nat => (n : Int)) := by rw [List.map_map]; rfl
    rw [this]
    exact List.pairwise_map.mpr (List.Pairwise.imp (R := (· ≠ ·)) (fun {a b : Nat} (h : a ≠ b) => fun (e : (a : Int) = (b : Int)) => h (by omega)) (show (L.map (·.1)).Pairwise (· ≠ ·) from ndL)))
  have ascy := lt_of_le_nodup ys asc ndy
  have ykey : ∀ y ∈ ys, ∃ m : Nat, y = (m : Int) ∧ ∃ v c, (m, v, c) ∈ recsOf vis ∧ (m, V.int v) ∈ L := fun y hy => by
    obtain ⟨⟨m, u⟩, he, e⟩ := List.mem_map.mp (perm.mem_iff.mp hy)
    obtain ⟨v', c', rfl, q⟩ := (mL m u).mp he
    exact ⟨m, e.symm, v', c', q, he⟩
  refine ⟨sl, rfl, ⟨_, SqL.of upd_same⟩, ?_⟩
  refine lcG_list (C := c0) (I := fun _ => True) (Good := fun i d => ∃ r : BRow, ys[i]? = some (r.1 : Int) ∧ RowOk (recsOf vis) r ∧ d = encR r) (SqL.of upd_same) (fun _ z => z) (fun _ _ _ _ _ => trivial) (fun _ _ _ z => z) trivial (by rw [List.length_map]; omega) (fun i y hy H' f' _ Q' hQ => ?_) fun D us ds H3 hD eD dD dl dg f3 _ => ?_
  · obtain ⟨x, hx, rfl⟩ := map_at hy
    obtain ⟨m, rfl, v', c', q, he⟩ := ykey x (List.mem_of_getElem? hx)
    have f12 := f2.trans f'
    obtain ⟨⟨m2, u⟩, he2, e2⟩ := List.mem_map.mp ((kL2 m).mpr ⟨v', c', q⟩)
    have e2 : m2 = m := e2
    subst e2
    obtain ⟨a, cs, rfl, _, ha, pcs, hcs⟩ := mL2 m2 u he2
    have hp' := f12.at hp (fun z => z)
    have lcs : cs.length ≤ 4000 := few_rng (l := cs) (fun x hx => by
      obtain ⟨v'', q''⟩ := (hcs x).mp hx
      exact (RO _ _ _ q'').2) cs (pcs.imp fun h => by omega) fun k hk => hk
    refine ⟨_, rfl, _, rfl, p, C, dx, _, _, rfl, hp', Tk.cl, Tk.nN, flL_near _ _ _, _, rfl, nd, _, rfl, by have := DGet.k (k := Sum.inl ((m2 : Nat) : Int)) (f12.at hL (fun z => z)); rw [(valV_kvL ndL m2 _).mpr he] at this; exact this, ?_⟩
    refine ⟨_, rfl, p, C, dx, _, _, rfl, hp', Tk.cl, Tk.nM, flL_may _ _ _, _, rfl, md, _, rfl, by have := DGet.k (k := Sum.inl ((m2 : Nat) : Int)) (f12.at hL2 (fun z => z)); rw [(valV_kvL ndL2 m2 _).mpr he2] at this; exact this, ?_⟩
    refine ⟨a, _, rfl, .inl ⟨SqL.of (f12.at ha (fun z => z)), fun tq htq => ?_⟩⟩
    refine ⟨one_sz (Nat.le_of_ble_eq_true rfl), fun tr htr => ?_⟩
    have g1 : Fr c0 H' (upd H' tq (.tup (cs.map V.int))) := Fr.new htq
    have g2 : Fr c0 (upd H' tq (.tup (cs.map V.int))) (upd (upd H' tq (.tup (cs.map V.int))) tr (.tup [.int (m2 : Nat), .int v', .ref tq])) := Fr.new htr
    refine hQ (encR (m2, v', cs)) _ _ ⟨(m2, v', cs), hx, ⟨⟨c', q⟩, pcs, hcs⟩, rfl⟩ ?_ (.tup (SqT.of upd_same) (.cons (.int _) (.cons (.int _) (.cons (.tup (SqT.of (g2.tup upd_same)) (DpAll.ints _)) .nil)))) (g1.trans g2) trivial
    have := tup_encR [(m2, v', cs)]
    simpa [tupDs] using this
  · rw [List.length_map] at dl
    obtain ⟨rows, rfl, e2, hr⟩ := rows_of (P := RowOk (recsOf vis)) dl fun k d hk => (dg k d hk).1
    have f03 := ((f0.trans f1).trans f2).trans f3
    have rl : rows.length = ys.length := by rw [← e2, List.length_map]
    refine k D us rows H3 f03 ((f0.trans f1).free _ (f2.free _ hD)) eD dD ⟨?_, fun m => ?_, fun m v cs hm => ?_, fun m v cs hm => ?_⟩ (by omega) fun r hm => ?_
    · have : ((rows.map (·.1)).map (fun n : Nat => (n : Int))).Pairwise (· < ·) := by rw [List.map_map]; rw [← e2] at ascy; exact ascy
      rw [List.pairwise_map] at this
      exact this.imp fun h => by omega
    · constructor
      · intro h
        obtain ⟨r, hm, rfl⟩ := List.mem_map.mp h
        obtain ⟨⟨c, q⟩, _⟩ := hr r hm
        exact ⟨_, c, (SV _).mp q⟩
      · rintro ⟨v', c', q⟩
        have q := (SV _).mpr q
        have : ((m : Nat) : Int) ∈ ys := perm.mem_iff.mpr (List.mem_map.mpr ⟨(m, .int v'), (mL m _).mpr ⟨v', c', rfl, q⟩, rfl⟩)
        rw [← e2] at this
        obtain ⟨r, hm, e⟩ := List.mem_map.mp this
        exact List.mem_map.mpr ⟨r, hm, by omega⟩
    · obtain ⟨⟨c, q⟩, _⟩ := hr _ hm
      exact ⟨c, (SV _).mp q⟩
    · obtain ⟨_, h1, h2⟩ := hr _ hm
      refine ⟨h1, fun c => ?_⟩
      rw [h2]
      exact ⟨fun ⟨v', q⟩ => ⟨v', (SV _).mp q⟩, fun ⟨v', q⟩ => ⟨v', (SV _).mpr q⟩⟩
    · obtain ⟨_, h1, h2⟩ := hr _ hm
      exact few_rng (l := r.2.2) (fun x hx => by
        obtain ⟨v'', q''⟩ := (h2 x).mp hx
        exact (RO _ _ _ q'').2) _ (h1.imp fun h => by omega) fun k hk => hk
end BN
namespace BN
open PySem L2 PyProof.Rows
/-! ### k06's law -/
theorem pt_small (o : Option PT) : (encPt o).depth ≤ 1 ∧ wd (encPt o) ≤ 4 := by
  cases o with
  | none => simp [encPt, PyData.depth, wd]
  | some r => obtain ⟨k, x, i, j⟩ := r; simp [encPt, PyData.depth, PyData.depthAll, wd, wds]
mutual
theorem eqv_refl : ∀ d : PyData, PyData.canLay0 d = true → PyData.eqv d d = true
  | .none, _ => by simp [PyData.eqv]
  | .bool _, _ => by simp [PyData.eqv]
  | .int _, _ => by simp [PyData.eqv]
  | .str _, _ => by simp [PyData.eqv]
  | .list xs, h => by simp only [PyData.eqv]; exact eqv_reflAll xs (by simpa [PyData.canLay0] using h)
  | .tuple xs, h => by simp only [PyData.eqv]; exact eqv_reflAll xs (by simpa [PyData.canLay0] using h)
  | .dict _, h => by simp [PyData.canLay0] at h
theorem eqv_reflAll : ∀ ds : List PyData, PyData.canLayAll0 ds = true → PyData.eqvAll ds ds = true
  | [], _ => by simp [PyData.eqvAll]
  | d :: r, h => by
    simp only [PyData.canLayAll0, Bool.and_eq_true] at h
    simp only [PyData.eqvAll, eqv_refl d h.1, eqv_reflAll r h.2]; rfl
end
theorem can_ints (l : List Int) : PyData.canLayAll0 (l.map PyData.int) = true := by
  induction l with
  | nil => rfl
  | cons a r ih => simp [PyData.canLayAll0, PyData.canLay0, ih]
theorem shaped_vs (v : Int) (l : List Int) : SeqAt.shaped (.tuple [.int v, .list (l.map PyData.int)]) = true := by
  have h1 := can_ints l
  have h2 := (ints_small l).1
  unfold SeqAt.shaped
  rw [Bool.and_eq_true, decide_eq_true_eq]
  refine ⟨by simp [PyData.canLay0, PyData.canLayAll0, h1], ?_⟩
  simp only [PyData.depth, PyData.depthAll]; omega
abbrev rMin2 : List V → Hp → VK → Prop := fun xs H Q => ∃ i j, xs = [.int i, .int j] ∧ Q (.int (if j < i then j else i)) H
def t_law6 (K : PySem.W.Frag) : TS :=
  (tSeq (tAsg (tCall (spBegun K) [] C8.E0 (tCons (tVar 0) tNil)) (gName 1))
    (tSeq (tFor (iRng1 (tCons (tC (.int 2)) tNil)) (gName 2) (tSeq (tAsg (tCall (spProgram K) [] C8.E0 (tCons (tVar 1) (tCons (tC (.int 5)) tNil))) (gName 3))
    (tFor (iRng1 (tCons (tC (.int 2)) tNil)) (gName 4) (tSeq (tAsg (tCall (spNumbers K) [] C8.E0 (tCons (tVar 1) (tCons (tVar 3) tNil))) (gName 5))
    (tSeq (tAsg (tCall (spLRun K) [] C8.E0 (tCons (tVar 3) (tCons (tVar 5) (tCons (tC (.bl true)) tNil)))) (gName 6))
    (tSeq (tAsg (tCall (spLRun K) [] C8.E0 (tCons (tVar 3) (tCons (tVar 5) (tCons (tC (.bl false)) tNil)))) (gName 7))
    (tSeq (tAsg (tC .non) (gName 8))
    (tSeq (tFor (iRng1 (tCons (tCB rMin2 (tCons (tCB (rLenSq K) (tCons (tOp (rIxT K) (tVar 6) (tC (.int 1))) tNil)) (tCons (tCB (rLenSq K) (tCons (tOp (rIxT K) (tVar 7) (tC (.int 1))) tNil)) tNil))) tNil)) (gName 9) (tIfS (tAnd (tTest (tOp rIsN (tVar 8) (tC .non))) (tTest (tOp rNe (tOp (rIxT K) (tOp (rIxL K) (tOp (rIxT K) (tVar 6) (tC (.int 1))) (tVar 9)) (tC (.int 2))) (tOp (rIxT K) (tOp (rIxL K) (tOp (rIxT K) (tVar 7) (tC (.int 1))) (tVar 9)) (tC (.int 2)))))) (tAsg (tTup (tCons (tVar 9) (tCons (tOp (rIxT K) (tOp (rIxL K) (tOp (rIxT K) (tVar 6) (tC (.int 1))) (tVar 9)) (tC (.int 0))) (tCons (tOp (rIxT K) (tOp (rIxL K) (tOp (rIxT K) (tVar 6) (tC (.int 1))) (tVar 9)) (tC (.int 2))) (tCons (tOp (rIxT K) (tOp (rIxL K) (tOp (rIxT K) (tVar 7) (tC (.int 1))) (tVar 9)) (tC (.int 2))) tNil))))) (gName 8)) tNext))
    (tSeq (tIfS (tNot (tB (tCall (spAlike K 5) [] C8.E0 (tCons (tCall (spParting K) [] C8.E0 (tCons (tVar 3) (tCons (tVar 5) tNil))) (tCons (tVar 8) tNil))))) (tRet (tC (.bl false))) tNext)
    (tIfS (tAnd (tTest (tOp rIsN (tVar 8) (tC .non))) (tTest (tOp (rNeD K) (tTup (tCons (tOp (rIxT K) (tVar 6) (tC (.int 0))) (tCons (tOp (rIxT K) (tVar 6) (tC (.int 2))) tNil))) (tTup (tCons (tOp (rIxT K) (tVar 7) (tC (.int 0))) (tCons (tOp (rIxT K) (tVar 7) (tC (.int 2))) tNil)))))) (tRet (tC (.bl false))) tNext))))))))))
    (tRet (tC (.bl true)))))
theorem pure_law6 {K : PySem.W.Frag} (vs : List V) (H : Hp) (Q : VK) (E : XK) (h : spLaw K vs H Q E) :
    t_law6 K { nx := fun _ H' => Q .non H', rt := Q } (start ["script", "box", "turn", "program", "again", "numbers", "near", "called", "due", "k"] vs) H := by
  obtain ⟨a, ns, rfl, hS, hl, k⟩ := h
  refine ⟨_, rfl, a, ns, rfl, hS, hl, fun bx il H1 f1 B1 => ?_⟩
  refine ⟨2, rfl, by decide, by decide, ?_⟩
  refine for_range (lo := 0) (n := 2) (fun i σ H' => ∃ s2 s3 s4 s5 s6 s7 s8 s9, σ = [some (.ref a), some (.ref bx), s2, s3, s4, s5, s6, s7, s8, s9] ∧ Box H' bx il) ⟨_, _, _, _, _, _, _, _, rfl, B1⟩ ?_ ?_
  · rintro i σ H2 hi ⟨s2, s3, s4, s5, s6, s7, s8, s9, rfl, B2⟩
    refine ⟨_, rfl, bx, il, 5, rfl, B2, by decide, by decide, fun ins pt vp H3 dr hd f3 B3 => ?_⟩
    obtain ⟨t, ti, vp', rfl, hT, hI, _⟩ := inv_P hd
    have O := dr.okP (by decide)
    have oil := O.il
    refine ⟨2, rfl, by decide, by decide, ?_⟩
    refine for_range (lo := 0) (n := 2) (fun i σ H' => ∃ s2 s4 s5 s6 s7 s8 s9, σ = [some (.ref a), some (.ref bx), s2, some (.ref t), s4, s5, s6, s7, s8, s9] ∧ Fr (cB bx il) H3 H' ∧ Box H' bx il) ⟨_, _, _, _, _, _, _, rfl, Fr.refl _, B3⟩ ?_ ?_
    · rintro i' σ H4 hi' ⟨s2, s4, s5, s6, s7, s8, s9, rfl, f4, B4⟩
      refine ⟨_, rfl, _, rfl, bx, il, t, ti, vp', ins, rfl, B4, f4.sqT hT, f4.sqT hI, by omega, fun tn nums H5 hnl hnr hN f5 B5 => ?_⟩
      have R := dr.run (by decide) hnl hnr
      have f35 := f4.trans f5
      have hd5 := Dp.fr f35 _ _ (tup_encP ins pt) hd
      have hN5 : SqT K H5 tn (nums.map V.int) := SqT.of hN
      refine ⟨_, rfl, _, rfl, .ref t, tn, true, ins, pt, nums, rfl, hd5, hN5, O.nd, hnl, by omega, R.w, fun t7 r1 r2 H6 f6 _ _ hT7 TA7 => ?_⟩
      refine ⟨_, rfl, _, rfl, .ref t, tn, false, ins, pt, nums, rfl, Dp.sm f6 _ _ hd5, f6.sqT hN5, O.nd, hnl, by omega, R.w, fun t8 q1 q2 H7 f7 _ _ hT8 TA8 => ?_⟩
      have TA7' := TA7.fr f7
      have hT7' := f7.sqT hT7
      have f57 := f6.trans f7
      obtain ⟨rv1, e1, d1⟩ := TA7'.rw
      obtain ⟨rv2, e2, d2⟩ := TA8.rw
      have l1 : rv1.length = (mean true ins pt nums).rows.length := by rw [d1.len, List.length_map]
      have l2 : rv2.length = (mean false ins pt nums).rows.length := by rw [d2.len, List.length_map]
      have m1 := mean_len (near := true) (ns := nums) dr (by decide)
      have m2 := mean_len (near := false) (ns := nums) dr (by decide)
      have ej : (if ((rv2.length : Nat) : Int) < ((rv1.length : Nat) : Int) then ((rv2.length : Nat) : Int) else ((rv1.length : Nat) : Int)) = ((min rv1.length rv2.length : Nat) : Int) := by split <;> omega
      refine ⟨_, rfl, t7, _, _, _, rfl, rfl, hT7', rfl, r1, _, rfl, .inl (SqL.of e1), _, rfl, t8, _, _, _, rfl, rfl, hT8, rfl, q1, _, rfl, .inl (SqL.of e2), _, _, rfl, ((min rv1.length rv2.length : Nat) : Int), by rw [ej], by omega, by omega, ?_⟩
      refine for_range (lo := 0) (n := min rv1.length rv2.length) (fun i σ H' => ∃ s2 s4 u s9, σ = [some (.ref a), some (.ref bx), s2, some (.ref t), s4, some (.ref tn), some (.ref t7), some (.ref t8), some u, s9] ∧ Fr c0 H7 H' ∧ Dp K H' u (encPt (firstP ((mean true ins pt nums).rows.take i) ((mean false ins pt nums).rows.take i) 0)))
        ⟨_, _, _, _, rfl, Fr.refl _, by simp only [List.take_zero, firstP, encPt]; exact .non⟩ ?_ ?_
      · rintro j σ H8 hj ⟨s2, s4, u, s9, rfl, f8, du⟩
        obtain ⟨x, hx⟩ := get_lt (l := rv1) (i := j) (by omega)
        obtain ⟨y, hy⟩ := get_lt (l := rv2) (i := j) (by omega)
        obtain ⟨da, ha, Da⟩ := d1.getV hx
        obtain ⟨ra, hra, rfl⟩ := map_at ha
        obtain ⟨db, hb, Db⟩ := d2.getV hy
        obtain ⟨rb, hrb, rfl⟩ := map_at hb
        obtain ⟨ta, rfl, hta⟩ := inv_row Da
        obtain ⟨tb, rfl, htb⟩ := inv_row Db
        have e0 : (0 + (j : Nat) : Int) = ((j : Nat) : Int) := Int.zero_add _
        have ix1 := atI_nat hx
        have ix2 := atI_nat hy
        rw [← e0] at ix1 ix2
        have g1 := f8.at e1 (fun z => z)
        have g2 := f8.at e2 (fun z => z)
        cases q : firstP ((mean true ins pt nums).rows.take j) ((mean false ins pt nums).rows.take j) 0 with
        | some r =>
          rw [q] at du
          obtain ⟨ua, uxs, rfl, _, _⟩ : ∃ ua uxs, u = .ref ua ∧ SqT K H8 ua uxs ∧ True := by
            obtain ⟨k', x', i'', j'⟩ := r
            obtain ⟨ua, uxs, e, hs, _⟩ := du.tup_inv
            exact ⟨ua, uxs, e, hs, trivial⟩
          refine ⟨_, rfl, rfl, _, rfl, ?_⟩
          refine ifF (decide_eq_false fun z => by cases z) (iteF ⟨_, _, _, _, rfl, f8, ?_⟩)
          rw [firstP_more q]; exact du
        | none =>
          rw [q] at du
          have eu : u = .non := by cases du; rfl
          subst eu
          refine ⟨_, rfl, rfl, _, rfl, ?_⟩
          refine ifT (decide_eq_true rfl) ?_
          refine ⟨_, rfl, t7, _, _, _, rfl, rfl, f8.sqT hT7', rfl, _, rfl, r1, _, _, _, rfl, rfl, SqL.of g1, ix1, ta, _, _, _, rfl, rfl, f8.sqT hta, rfl, _, rfl, t8, _, _, _, rfl, rfl, f8.sqT hT8, rfl, _, rfl, q1, _, _, _, rfl, rfl, SqL.of g2, ix2, tb, _, _, _, rfl, rfl, f8.sqT htb, rfl, rfl, _, rfl, ?_⟩
          rw [ne_int]
          by_cases hq : ra.2.2 = rb.2.2
          · refine ifF (by rw [decide_eq_true hq]; rfl) ⟨_, _, _, _, rfl, f8, ?_⟩
            rw [firstP_eq hra hrb hq, q]; exact .non
          · refine ifT (by rw [decide_eq_false hq]; rfl) ?_
            refine ⟨_, rfl, _, rfl, t7, _, _, _, rfl, rfl, f8.sqT hT7', rfl, _, rfl, r1, _, _, _, rfl, rfl, SqL.of g1, ix1, ta, _, _, _, rfl, rfl, f8.sqT hta, rfl, _, rfl, t7, _, _, _, rfl, rfl, f8.sqT hT7', rfl, _, rfl, r1, _, _, _, rfl, rfl, SqL.of g1, ix1, ta, _, _, _, rfl, rfl, f8.sqT hta, rfl,
              _, rfl, t8, _, _, _, rfl, rfl, f8.sqT hT8, rfl, _, rfl, q1, _, _, _, rfl, rfl, SqL.of g2, ix2, tb, _, _, _, rfl, rfl, f8.sqT htb, rfl, one_sz (by show 4 ≤ 1000; decide), fun t9 ht9 => ?_⟩
            refine ⟨_, _, _, _, rfl, f8.trans (Fr.new ht9), ?_⟩
            have := (firstP_ne (n := 0) q hra hrb hq).2
            rw [Nat.zero_add] at this
            rw [this]
            refine .tup (SqT.of upd_same) (.cons ?_ (.cons (.str _) (.cons (.int _) (.cons (.int _) .nil))))
            rw [e0]; exact .int _
      · rintro σ H8 ⟨s2, s4, u, s9, rfl, f8, du⟩
        rw [l1, l2, firstP_min] at du
        have f58 := f57.trans f8
        refine ⟨_, rfl, _, rfl, .ref t, tn, ins, pt, nums, rfl, Dp.sm f58 _ _ hd5, f58.sqT hN5, R, fun u' H9 f9 d9 => ?_⟩
        have sm := pt_small (fpt ins pt nums)
        have du9 := Dp.fr f9 _ _ (tup_pt _) du
        refine ⟨_, rfl, u', u, encPt (fpt ins pt nums), rfl, d9, du9, by omega, by omega, true, rfl, iteF ?_⟩
        have f79 := f8.trans f9
        have fin : ∀ {H' : Hp}, Fr c0 H9 H' → Fr (cB bx il) H3 H' ∧ Box H' bx il := fun {H'} f => ⟨f35.trans (Fr.of0 ((f57.trans f79).trans f)), B5.fr0 ((f57.trans f79).trans f)⟩
        cases q : fpt ins pt nums with
        | some r =>
          have du9' := du9
          rw [show firstP (mean true ins pt nums).rows (mean false ins pt nums).rows 0 = some r from q] at du9'
          obtain ⟨ua, rfl⟩ : ∃ ua, u = .ref ua := by
            obtain ⟨k', x', i'', j'⟩ := r
            obtain ⟨ua, uxs, e, hs, _⟩ := du9'.tup_inv
            exact ⟨ua, e⟩
          refine ⟨_, rfl, rfl, _, rfl, ?_⟩
          exact ifF (decide_eq_false fun z => by cases z) (iteF ⟨_, _, _, _, _, _, _, rfl, fin (Fr.refl _)⟩)
        | none =>
          have du9' := du9
          rw [show firstP (mean true ins pt nums).rows (mean false ins pt nums).rows 0 = none from q] at du9'
          have eu : u = .non := by cases du9'; rfl
          subst eu
          obtain ⟨sv, ss, _⟩ := same_of_none (p := pt) (P := [ins.zip nums]) (n := 0) q
          refine ⟨_, rfl, rfl, _, rfl, ?_⟩
          refine ifT (decide_eq_true rfl) ?_
          have hT79 := f79.sqT hT7'
          have hT89 := f79.sqT hT8
          refine ⟨_, rfl, t7, _, _, _, rfl, rfl, hT79, rfl, _, rfl, t7, _, _, _, rfl, rfl, hT79, rfl, one_sz (by show 2 ≤ 1000; decide), fun w1 hw1 => ?_⟩
          have g1 : Fr c0 H9 (upd H9 w1 (.tup [.int (mean true ins pt nums).v, .ref r2])) := Fr.new hw1
          refine ⟨_, rfl, t8, _, _, _, rfl, rfl, g1.sqT hT89, rfl, _, rfl, t8, _, _, _, rfl, rfl, g1.sqT hT89, rfl, one_sz (by show 2 ≤ 1000; decide), fun w2 hw2 => ?_⟩
          have g2 : Fr c0 (upd H9 w1 (.tup [.int (mean true ins pt nums).v, .ref r2])) (upd (upd H9 w1 (.tup [.int (mean true ins pt nums).v, .ref r2])) w2 (.tup [.int (mean false ins pt nums).v, .ref q2])) := Fr.new hw2
          have g := g1.trans g2
          refine ⟨.tuple [.int (mean true ins pt nums).v, .list ((mean true ins pt nums).said.map .int)], .tuple [.int (mean false ins pt nums).v, .list ((mean false ins pt nums).said.map .int)],
            .tup (SqT.of (g2.tup upd_same)) (.cons (.int _) (.cons (.lst (SqL.of ((TA7'.fr (f79.trans g)).sd)) (DpAll.ints _)) .nil)), .tup (SqT.of upd_same) (.cons (.int _) (.cons (.lst (SqL.of ((TA8.fr (f79.trans g)).sd)) (DpAll.ints _)) .nil)), shaped_vs _ _, shaped_vs _ _, _, rfl, ?_⟩
          have ev : PyData.eqv (.tuple [.int (mean true ins pt nums).v, .list ((mean true ins pt nums).said.map .int)]) (.tuple [.int (mean false ins pt nums).v, .list ((mean false ins pt nums).said.map .int)]) = true := by
            rw [show (mean true ins pt nums).v = (mean false ins pt nums).v from sv, show (mean true ins pt nums).said = (mean false ins pt nums).said from ss]
            have h1 := can_ints (mean false ins pt nums).said
            exact eqv_refl _ (by simp [PyData.canLay0, PyData.canLayAll0, h1])
          rw [ev]
          exact iteF ⟨_, _, _, _, _, _, _, rfl, fin g⟩
    · rintro σ H4 ⟨s2, s4, s5, s6, s7, s8, s9, rfl, f4, B4⟩
      exact ⟨_, _, _, _, _, _, _, _, rfl, B4⟩
  · rintro σ H2 ⟨s2, s3, s4, s5, s6, s7, s8, s9, rfl, B2⟩
    exact k H2
end BN
namespace BN
open PySem L2 PyProof.Rows
/-! ### is_alike -/
theorem filtV_lc {K : PySem.W.Frag} {H1 : Hp} {σ : L2.St} {Q : Addr → Hp → Prop} {a : Addr} {xs : List V} {rows : List BRow} {j : Nat} {tt : TT} {tst : BRow → Bool} (hj : j < σ.length) (hx : SqL K H1 a xs) (dx : DpAll K H1 xs (rows.map encR)) (hn : rows.length ≤ 100000)
    (htt : ∀ (i : Nat) (x : V) (r : BRow) (H' : Hp) (Q : Bool → Hp → Prop), xs[i]? = some x → rows[i]? = some r → Fr c0 H1 H' → (∀ H'', Fr c0 H' H'' → Q (tst r) H'') → tt ((wipe σ [j]).set j (some x)) H' Q)
    (hq : ∀ (D : Addr) (us : List V) (H' : Hp), H1 D = none → H' D = some (.lst us) → DpAll K H' us ((rows.filter tst).map encR) → Fr c0 H1 H' → Q D H') : ∀ D, H1 D = none →
    ∃ W : Nat → Nat → Hp → Prop, (∃ m, W 0 m (upd H1 D (.lst []))) ∧ ∀ i m H, W i m H →
      ((Itl K a).stop i H ∧ Q D H) ∨ ((Itl K a).go i H ∧ ∃ Nx : Hp → Prop, (∀ H', Nx H' → ∃ m', m' < m ∧ W (i + 1) m' H') ∧ ∀ x H', (Itl K a).yld i H x H' → gName j x (wipe σ [j]) H' fun σ2 H2 => wipe σ2 [j] = wipe σ [j] ∧ tt σ2 H2 fun b H3 =>
        if b = true then (tVar j) σ2 H3 fun y H4 => ∃ acc, H4 D = some (.lst acc) ∧ acc.length < sizeLine ∧ Nx (upd H4 D (.lst (acc ++ [y]))) else Nx H3) := fun D hD => by
  have lx : xs.length = rows.length := by rw [dx.len, List.length_map]
  refine lc_list (K := K) (a := a) (xs := xs) (Qd := fun H => Q D H) (fun i H' => ∃ us, H' D = some (.lst us) ∧ DpAll K H' us (((rows.take i).filter tst).map encR) ∧ Fr c0 H1 H') ⟨[], upd_same, by simp; exact .nil, Fr.new hD⟩ (fun i H' _ ⟨_, _, _, f⟩ => f.sqL (fun _ z => z) hx) (fun i x H' hi ⟨us, e, d, f⟩ => ⟨wipe1 _ _ _, ?_⟩) fun H' ⟨us, e, d, f⟩ => ?_
  · obtain ⟨dd, hdd, Dx⟩ := dx.getV hi
    obtain ⟨r, hr, rfl⟩ := map_at hdd
    have hl := at_lt hr
    refine htt i x r H' _ hi hr f fun H2 f2 => ?_
    have ef : (rows.take (i + 1)).filter tst = (rows.take i).filter tst ++ [r].filter tst := by rw [take_more hr, List.filter_append]
    have e2 := f2.at e (fun z => z)
    have d2 := Dp.sms f2 _ _ d
    cases q : tst r with
    | true =>
      have f3 : Fr (fun a _ => a = D) H2 (upd H2 D (.lst (us ++ [x]))) := Fr.set e2 rfl trivial
      refine iteT ⟨_, by rw [List.getElem?_set_self (by simpa [wipe] using hj)], _, e2, Nat.lt_of_le_of_lt (m := 100000) ?_ (by rw [sizeLine_eq]; decide), us ++ [x], upd_same, ?_, (f.trans f2).fresh hD⟩
      · rw [d.len, List.length_map]
        have := List.length_filter_le tst (rows.take i)
        rw [List.length_take] at this; omega
      · rw [ef, List.filter_cons_of_pos q, List.filter_nil, List.map_append]
        refine (Dp.frs f3 _ _ (tup_encR _) d2).append (.cons ?_ .nil)
        have := tup_encR [r]
        exact Dp.fr f3 _ _ (by simpa [tupDs] using this) (Dp.sm (f.trans f2) _ _ Dx)
    | false =>
      refine iteF ⟨us, e2, ?_, f.trans f2⟩
      rw [ef, List.filter_cons_of_neg (by simp [q]), List.filter_nil, List.append_nil]
      exact d2
  · rw [lx, List.take_length] at d
    exact hq D us H' hD e d f
abbrev oddR (r : BRow) : Bool := !decide (r.2.2 = [r.2.1])
theorem eqv_ints : ∀ a b : List Int, PyData.eqvAll (a.map .int) (b.map .int) = decide (a = b)
  | [], [] => by simp [PyData.eqvAll]
  | [], _ :: _ => by simp [PyData.eqvAll]
  | _ :: _, [] => by simp [PyData.eqvAll]
  | x :: a, y :: b => by
    simp only [List.map_cons, PyData.eqvAll, PyData.eqv, eqv_ints a b]
    by_cases e : x = y
    · subst e; simp
    · simp [e]
theorem shaped_tints (l : List Int) : SeqAt.shaped (.tuple (l.map PyData.int)) = true := by
  have h1 := can_ints l
  have h2 := (ints_small l).1
  unfold SeqAt.shaped
  rw [Bool.and_eq_true, decide_eq_true_eq]
  refine ⟨by simp [PyData.canLay0, h1], ?_⟩
  simp only [PyData.depth]; omega
theorem can_rows : ∀ l : List BRow, PyData.canLayAll0 (l.map encR) = true
  | [] => rfl
  | r :: l => by simp [PyData.canLayAll0, PyData.canLay0, encR, can_ints, can_rows l]
theorem dep_rows : ∀ l : List BRow, PyData.depthAll (l.map encR) ≤ 3
  | [] => by simp [PyData.depthAll]
  | r :: l => by
    have h1 := dep_rows l
    have h2 := (ints_small r.2.2).1
    have h3 : (encR r).depth ≤ 3 := by simp only [encR, PyData.depth, PyData.depthAll]; omega
    show max (encR r).depth (PyData.depthAll (l.map encR)) ≤ 3
    omega
theorem shaped_rows (l : List BRow) : SeqAt.shaped (.list (l.map encR)) = true := by
  have h1 := can_rows l
  have h2 := dep_rows l
  unfold SeqAt.shaped
  rw [Bool.and_eq_true, decide_eq_true_eq]
  refine ⟨by simp [PyData.canLay0, h1], ?_⟩
  simp only [PyData.depth]; omega
def alikeB (rows : List BRow) : Bool := decide (rows.filter oddR = [])
def spIsAlike (K : PySem.W.Frag) : Sp := fun vs H Q _ => ∃ (v : V) (ins : List Str) (pt : Part), vs = [v] ∧ Dp K H v (encP ins pt) ∧ AllB ins pt ∧
  ∀ (rows : List BRow) H', Fr c0 H H' → IsRows (SeenV ins pt) rows → Q (.bl (alikeB rows)) H'
def t_isalike (K : PySem.W.Frag) : TS :=
  (tRet (tOp (rEqD K) (tLc (iList K (tCall (spBinders K) [] C8.E0 (tCons (tVar 0) tNil))) (gName 1) (tTest (tOp (rNeD K) (tOp (rIxT K) (tVar 1) (tC (.int 2))) (tTup (tCons (tOp (rIxT K) (tVar 1) (tC (.int 1))) tNil)))) (tVar 1) [1]) (tLst tNil)))
theorem pure_isalike {K : PySem.W.Frag} (vs : List V) (H : Hp) (Q : VK) (X : XK) (h : spIsAlike K vs H Q X) :
    t_isalike K { nx := fun _ H' => Q .non H', rt := Q } (start ["program", "row"] vs) H := by
  obtain ⟨v, ins, pt, rfl, hd, O, k⟩ := h
  refine ⟨_, rfl, v, ins, pt, rfl, hd, O, fun D us rows H1 f1 hD eD dD IR l1 l2 => ?_⟩
  refine ⟨D, rfl, ⟨_, SqL.of eD⟩, ?_⟩
  refine filtV_lc (tst := oddR) (by show 1 < 2; decide) (SqL.of eD) dD (by omega) (fun i x r H' Q' hx hr f' hQ => ?_) fun D2 us2 H2 hD2 eD2 dD2 f2 => ?_
  · obtain ⟨dd, hdd, Dx⟩ := dD.getV hx
    rw [List.getElem?_map, hr] at hdd
    cases hdd
    obtain ⟨t, xs, rfl, hT, ha⟩ := Dp.tup_inv (ds := [.int (r.1 : Nat), .int r.2.1, .tuple (r.2.2.map .int)]) (Dp.sm f' _ _ Dx)
    obtain ⟨a1, a2, a3, rfl, d1, d2, d3⟩ := all3 ha
    cases d1; cases d2
    refine ⟨_, rfl, t, _, _, _, rfl, rfl, hT, rfl, _, rfl, t, _, _, _, rfl, rfl, hT, rfl, one_sz (Nat.le_of_ble_eq_true rfl), fun u hu => ?_⟩
    have g : Fr c0 H' (upd H' u (.tup [.int r.2.1])) := Fr.new hu
    refine ⟨.tuple (r.2.2.map .int), .tuple ([r.2.1].map .int), Dp.sm g _ _ d3, .tup (SqT.of upd_same) (.cons (.int _) .nil), shaped_tints _, shaped_tints _, _, rfl, ?_⟩
    have : (!PyData.eqv (.tuple (r.2.2.map .int)) (.tuple ([r.2.1].map .int))) = oddR r := by
      simp only [PyData.eqv, eqv_ints]
    rw [this]
    exact hQ _ g
  · refine ⟨one_sz (Nat.zero_le _), fun W hW => ?_⟩
    have g : Fr c0 H2 (upd H2 W (.lst [])) := Fr.new hW
    refine ⟨.list ((rows.filter oddR).map encR), .list [], .lst (SqL.of (g.at eD2 (fun z => z))) (Dp.sms g _ _ dD2), .lst (SqL.of upd_same) .nil, shaped_rows _, shaped_rows [], ?_⟩
    have : PyData.eqv (.list ((rows.filter oddR).map encR)) (.list []) = alikeB rows := by
      unfold alikeB
      cases q : rows.filter oddR with
      | nil => simp [PyData.eqv, PyData.eqvAll]
      | cons a r => simp [PyData.eqv, PyData.eqvAll]
    rw [this]
    exact k rows _ ((f1.trans f2).trans g) IR
end BN
namespace BN
open PySem PySem.Spec PyProof.Rows L2
/-! ### a walk over a list or a tuple -/
def iLT (K : PySem.W.Frag) (tl : TE) : TI := fun σ H R => tl σ H fun x H1 => ∃ a, x = .ref a ∧ (((∃ xs, SqL K H1 a xs) ∧ R (Itl K a) H1) ∨ ((∃ xs, SqT K H1 a xs) ∧ R (Itt K a) H1))
theorem pi_lt {X : Cx} {tg l : Expr} {tl : TE} (hl : PE X l tl) : PI X tg l (iLT X.K tl) := by
  refine ⟨fun pins s σ H R I h => ?_⟩
  refine thn (hl.run pins s σ H _ I h) fun v s1 ⟨x, H1, I1, r1, q1⟩ => ?_
  obtain ⟨a, e, ⟨⟨xs, hq⟩, q⟩ | ⟨⟨xs, hq⟩, q⟩⟩ := q1
  · subst e
    cases r1
    obtain ⟨its, rv, p, hz⟩ := I1.list hq
    refine wpAny_pyIter_list p.isList ⟨s1.heap.objs.size, [s1.heap.objs.size], _, _, H1, rfl, I1.kept (t' := s1.toks) fun b o e => Heap.get?_push_of_some _ e, turn_list a _, ⟨_, Heap.get?_push_size _ rfl, rfl, rfl⟩, fun b hb => ?_, q⟩
    have e : b = s1.heap.objs.size := by simpa using hb
    subst e
    exact I1.fpOk (Nat.le_refl _) (I1.hok.fresh (Nat.le_refl _))
  · subst e
    cases r1
    obtain ⟨its, rv, p, hz⟩ := I1.tuple hq
    refine wpAny_pyIter_tuple (show s1.heap.IsTuple a its.toArray from p) ⟨s1.heap.objs.size, [s1.heap.objs.size], _, _, H1, rfl, I1.kept (t' := s1.toks) fun b o e => Heap.get?_push_of_some _ e, turn_tuple a _, ⟨_, Heap.get?_push_size _ rfl, rfl, rfl⟩, fun b hb => ?_, q⟩
    have e : b = s1.heap.objs.size := by simpa using hb
    subst e
    exact I1.fpOk (Nat.le_refl _) (I1.hok.fresh (Nat.le_refl _))
end BN
namespace BN
open PySem L2 PyProof.Rows
open BNQ (kvE srtE encE)
/-! ### the law's binders, some more -/
def spLWith (K : PySem.W.Frag) : Sp := fun vs H Q _ => ∃ (a b : Addr) (ps : List Str) (n : Int) (F : BF) (m : Nat), vs = [.ref a, .ref b, .int n] ∧ (SqL K H b (ps.map V.str) ∨ SqT K H b (ps.map V.str)) ∧ BdAt H a F m ∧ m + ps.length ≤ 100000 ∧
  ∀ p H', Fr c0 H H' → H p = none → BdAt H' p (putsB F ps n) (m + ps.length) → Q (.ref p) H'
def t_lwith (K : PySem.W.Frag) : TS :=
  (tSeq (tAsg (tCB rDictD (tCons (tVar 0) tNil)) (gName 3))
    (tSeq (tFor (iLT K (tVar 1)) (gName 4) (sDPut (tVar 3) (tVar 4) (tVar 2)))
    (tRet (tVar 3))))
theorem pure_lwith {K : PySem.W.Frag} (vs : List V) (H : Hp) (Q : VK) (X : XK) (h : spLWith K vs H Q X) : t_lwith K { nx := fun _ H' => Q .non H', rt := Q } (start ["bound", "names", "number", "found", "name"] vs) H := by
  obtain ⟨a, b, ps, n, F, m, rfl, hb, B, hm, k⟩ := h
  obtain ⟨E, hE, nd, rel, hl⟩ := B.ex
  refine ⟨_, rfl, a, _, rfl, .inl hE, fun p hp => ?_⟩
  have f1 : Fr c0 H (upd H p (.dK (E.map kvE))) := Fr.new hp
  have e1 : (upd H p (.dK (E.map kvE))) p = some (.dK (E.map kvE)) := upd_same
  have hb1 : SqL K (upd H p (.dK (E.map kvE))) b (ps.map V.str) ∨ SqT K (upd H p (.dK (E.map kvE))) b (ps.map V.str) := hb.imp (fun z => f1.sqL (fun _ z => z) z) (fun z => f1.sqT z)
  generalize (upd H p (.dK (E.map kvE))) = H1 at f1 e1 hb1 ⊢
  let Pv : Nat → L2.St → Hp → Prop := fun i σ H' => ∃ (s4 : Option V), σ = [some (.ref a), some (.ref b), some (.int n), some (.ref p), s4] ∧ Fr c0 H H' ∧ Fr (cI p) H1 H' ∧ BdAt H' p (putsB F (ps.take i) n) (m + i)
  have P0 : Pv 0 [some (.ref a), some (.ref b), some (.int n), some (.ref p), none] H1 := ⟨_, rfl, f1, Fr.refl _, ⟨E, e1, nd, by rw [List.take_zero, putsB_nil]; exact rel, hl⟩⟩
  have step : ∀ (D : Ends) i x σ H', (ps.map V.str)[i]? = some x → Pv i σ H' → gName 4 x σ H' fun σ2 H2 => sDPut (tVar 3) (tVar 4) (tVar 2) { D with nx := Pv (i + 1), ct := Pv (i + 1), bk := D.nx } σ2 H2 := by
    rintro D i x σ H' hx ⟨s4, rfl, g1, g2, b1⟩
    obtain ⟨y, hy, rfl⟩ := map_at hx
    have li := at_lt hy
    obtain ⟨E', hE', nd', rel', hl'⟩ := b1.ex
    refine ⟨_, rfl, _, rfl, _, rfl, p, _, rfl, DPut.k (k := Sum.inr y) hE' (Nat.lt_of_le_of_lt (m := 100000) (by rw [List.length_map]; omega) (by rw [sizeLine_eq]; decide)), ?_⟩
    refine ⟨_, rfl, g1.fresh hp, g2.trans (Fr.setI hE' trivial), ⟨putE E' y n, by rw [upd_same, putK_kvE], putE_nodup nd' y n, ?_, Nat.le_trans (putE_len E' y n) (by omega)⟩⟩
    rw [← putK_kvE, ← putsB_more hy]
    exact rel'.put y n
  have last : ∀ σ H', Pv ps.length σ H' → tRet (tVar 3) { nx := fun _ H' => Q .non H', rt := Q } σ H' := by
    rintro σ H' ⟨s4, rfl, g1, g2, b1⟩
    rw [List.take_length] at b1
    exact ⟨_, rfl, k p H' g1 hp b1⟩
  have nb : ∀ {H'}, Fr (cI p) H1 H' → (SqL K H1 b (ps.map V.str) → SqL K H' b (ps.map V.str)) := fun {H'} g z => by
    rcases z with (h | ⟨o, h⟩) | h
    · refine .inl (.inl (g.keep b _ h fun z' => ?_))
      have zz : b = p := z'.1
      rw [zz, e1] at h; cases h
    · exact .inl (.inr ⟨o, g.frz h⟩)
    · exact .inr h
  rcases hb1 with hb1 | hb1
  · refine ⟨_, rfl, b, rfl, .inl ⟨⟨_, hb1⟩, ?_⟩⟩
    refine for_list (K := K) (a := b) (xs := ps.map V.str) Pv P0 (fun i σ H' _ ⟨_, _, _, g, _⟩ => nb g hb1) (fun i x σ H' hx hP => step _ i x σ H' hx hP) fun σ H' hP => last σ H' (by rw [List.length_map] at hP; exact hP)
  · refine ⟨_, rfl, b, rfl, .inr ⟨⟨_, hb1⟩, ?_⟩⟩
    refine for_tup (K := K) (a := b) (xs := ps.map V.str) Pv P0 (fun i σ H' _ ⟨_, _, _, g, _⟩ => g.sqT hb1) (fun i x σ H' hx hP => step _ i x σ H' hx hP) fun σ H' hP => last σ H' (by rw [List.length_map] at hP; exact hP)
end BN
namespace BN
open PySem L2 PyProof.Rows
/-! ### the law's table: readings by number, in turn -/
def enc2 (p : Int × Int) : PyData := .tuple [.int p.1, .int p.2]
theorem tup_enc2 (l : List (Int × Int)) : tupDs (l.map enc2) = true := tupDs_all fun d hd => by
  obtain ⟨r, _, rfl⟩ := List.mem_map.mp hd
  simp [enc2, tupD, tupDs]
def grp (R : List Rec) (m : Nat) : List (Int × Int) := R.filterMap fun r => if r.1 = m then some r.2 else none
theorem grp_mem {R : List Rec} {m : Nat} {v c : Int} : (v, c) ∈ grp R m ↔ (m, v, c) ∈ R := by
  unfold grp
  rw [List.mem_filterMap]
  constructor
  · rintro ⟨⟨m', v', c'⟩, h, e⟩
    by_cases q : m' = m
    · subst q
      rw [if_pos rfl] at e
      cases e; exact h
    · rw [if_neg q] at e; cases e
  · intro h
    exact ⟨_, h, by rw [if_pos rfl]⟩
theorem grp_len (R : List Rec) (m : Nat) : (grp R m).length ≤ R.length := List.length_filterMap_le _ _
theorem grp_app (R S : List Rec) (m : Nat) : grp (R ++ S) m = grp R m ++ grp S m := List.filterMap_append
theorem grp_one (num : Nat) (v c : Int) (m : Nat) : grp [(num, v, c)] m = if m = num then [(v, c)] else [] := by
  unfold grp
  by_cases e : num = m
  · subst e; simp
  · have : ¬ m = num := fun z => e z.symm
    simp [e, this]
theorem grp_ne {R : List Rec} {m : Nat} : grp R m ≠ [] ↔ ∃ v c, (m, v, c) ∈ R := by
  constructor
  · intro h
    obtain ⟨⟨v, c⟩, hp⟩ := List.exists_mem_of_ne_nil _ h
    exact ⟨v, c, grp_mem.mp hp⟩
  · rintro ⟨v, c, h⟩ e
    have := grp_mem.mpr h
    rw [e] at this; simp at this
def tS (H : Hp) (td : Addr) : Addr → Prop := fun a => ∃ kvs k, H td = some (.dK kvs) ∧ (k, V.ref a) ∈ kvs
def cTb (H : Hp) (td : Addr) : CP := fun a o => a = td ∨ (tS H td a ∧ ∃ xs, o = .lst xs)
structure Gw (td : Addr) (H H' : Hp) : Prop where
  fr : Fr (cTb H td) H H'
  gr : ∀ a, tS H' td a → tS H td a ∨ H a = none
theorem tS.fr {H H' : Hp} {td a : Addr} {o : HO} (f : Fr c0 H H') (h : H td = some o) (t : tS H' td a) : tS H td a := by
  obtain ⟨kvs, k, h1, h2⟩ := t
  rw [f.at h (fun z => z)] at h1
  exact ⟨kvs, k, by rw [h]; exact h1, h2⟩
theorem Gw.of0 {H H' : Hp} {td : Addr} {o : HO} (f : Fr c0 H H') (h : H td = some o) : Gw td H H' := ⟨f.of0, fun _ t => .inl (t.fr f h)⟩
theorem Gw.trans {H H1 H2 : Hp} {td : Addr} (a : Gw td H H1) (b : Gw td H1 H2) : Gw td H H2 := by
  refine ⟨⟨fun x o h n => b.fr.keep x o (a.fr.keep x o h n) fun z => n ⟨?_, z.2⟩, fun x h => a.fr.free x (b.fr.free x h)⟩, fun x t => ?_⟩
  · rcases z.1 with e | ⟨t, e⟩
    · exact .inl e
    · rcases a.gr x t with t | q
      · exact .inr ⟨t, e⟩
      · rw [h] at q; cases q
  · rcases b.gr x t with t | q
    · exact a.gr x t
    · exact .inr (a.fr.free x q)
theorem Gw.keep {H H' : Hp} {td a : Addr} {o : HO} (g : Gw td H H') (h : H a = some o) (n : ¬ tS H td a) (ne : a ≠ td) : H' a = some o ∧ ¬ tS H' td a :=
  ⟨g.fr.at h fun z => z.elim ne fun z => n z.1, fun t => (g.gr a t).elim n fun q => by rw [h] at q; cases q⟩
theorem cTb_dK {H : Hp} {td : Addr} : ∀ c kvs, cTb H td c (.dK kvs) → c = td := fun _ _ z => z.elim id fun z => by obtain ⟨_, _, e⟩ := z; cases e
structure Tb (K : PySem.W.Frag) (H : Hp) (td : Addr) (L : List (Nat × V)) (G : Nat → List (Int × Int)) : Prop where
  h : H td = some (.dK (kvL L))
  n1 : (L.map (·.1)).Nodup
  n2 : (L.map (·.2)).Nodup
  ls : ∀ m u, (m, u) ∈ L → ∃ (a : Addr) (vs : List V), u = .ref a ∧ H a = some (.lst vs) ∧ DpAll K H vs ((G m).map enc2)
structure TbAt (K : PySem.W.Frag) (H : Hp) (td : Addr) (R : List Rec) : Prop where
  ex : ∃ L, Tb K H td L (grp R) ∧ ∀ m, m ∈ L.map (·.1) ↔ grp R m ≠ []
theorem mem_kvL {L : List (Nat × V)} {k : Key} {u : V} : (k, u) ∈ kvL L ↔ ∃ m : Nat, (m, u) ∈ L ∧ k = Sum.inl (m : Int) := by
  unfold kvL
  rw [List.mem_map]
  constructor
  · rintro ⟨⟨m, u'⟩, h, e⟩; cases e; exact ⟨m, h, rfl⟩
  · rintro ⟨m, h, rfl⟩; exact ⟨_, h, rfl⟩
theorem tS_L {H : Hp} {td a : Addr} {L : List (Nat × V)} (h : H td = some (.dK (kvL L))) : tS H td a ↔ ∃ m, (m, V.ref a) ∈ L := by
  constructor
  · rintro ⟨kvs, k, h1, h2⟩
    rw [h] at h1; cases h1
    obtain ⟨m, hm, _⟩ := mem_kvL.mp h2
    exact ⟨m, hm⟩
  · rintro ⟨m, hm⟩
    exact ⟨_, _, h, mem_kvL.mpr ⟨m, hm, rfl⟩⟩
theorem Tb.fr {K : PySem.W.Frag} {H H' : Hp} {td : Addr} {L : List (Nat × V)} {G : Nat → List (Int × Int)} (T : Tb K H td L G) (f : Fr c0 H H') : Tb K H' td L G :=
  ⟨f.at T.h (fun z => z), T.n1, T.n2, fun m u hm => by
    obtain ⟨a, vs, e, h, d⟩ := T.ls m u hm
    exact ⟨a, vs, e, f.at h (fun z => z), Dp.sms f _ _ d⟩⟩
theorem TbAt.fr {K : PySem.W.Frag} {H H' : Hp} {td : Addr} {R : List Rec} (T : TbAt K H td R) (f : Fr c0 H H') : TbAt K H' td R := by
  obtain ⟨L, h, k⟩ := T.ex
  exact ⟨L, h.fr f, k⟩
theorem Tb.off {K : PySem.W.Frag} {H : Hp} {td a : Addr} {L : List (Nat × V)} {G : Nat → List (Int × Int)} (T : Tb K H td L G) (h : H a = none) : ¬ tS H td a ∧ a ≠ td := by
  refine ⟨fun t => ?_, fun e => by rw [e, T.h] at h; cases h⟩
  obtain ⟨m, hm⟩ := (tS_L T.h).mp t
  obtain ⟨a', vs, e, h', _⟩ := T.ls m _ hm
  cases e
  rw [h] at h'; cases h'
theorem TbAt.off {K : PySem.W.Frag} {H : Hp} {td a : Addr} {R : List Rec} (T : TbAt K H td R) (h : H a = none) : ¬ tS H td a ∧ a ≠ td := by
  obtain ⟨L, t, _⟩ := T.ex
  exact t.off h
theorem TbAt.there {K : PySem.W.Frag} {H : Hp} {td : Addr} {R : List Rec} (T : TbAt K H td R) : ∃ o, H td = some o := by
  obtain ⟨L, t, _⟩ := T.ex
  exact ⟨_, t.h⟩
theorem TbAt.gw0 {K : PySem.W.Frag} {H H' : Hp} {td : Addr} {R : List Rec} (T : TbAt K H td R) (f : Fr c0 H H') : Gw td H H' := by
  obtain ⟨o, h⟩ := T.there
  exact Gw.of0 f h
theorem tb_len {R : List Rec} {L : List (Nat × V)} (n1 : (L.map (·.1)).Nodup) (hk : ∀ m, m ∈ L.map (·.1) ↔ grp R m ≠ []) (RO : RecOk R) : L.length ≤ 200 := by
  have := nodup_lt 200 n1 fun x hx => by
    obtain ⟨v, c, h⟩ := grp_ne.mp ((hk x).mp hx)
    exact (RO _ _ _ h).1
  simpa using this
theorem nodup_inj {L : List (Nat × V)} (n : (L.map (·.2)).Nodup) {m m' : Nat} {u : V} (h : (m, u) ∈ L) (h' : (m', u) ∈ L) : m = m' := by
  induction L with
  | nil => simp at h
  | cons a r ih =>
    rw [List.map_cons, List.nodup_cons] at n
    rcases List.mem_cons.mp h with e | h
    · rcases List.mem_cons.mp h' with e' | h'
      · rw [← e] at e'; cases e'; rfl
      · exact absurd (List.mem_map.mpr ⟨_, h', by rw [← e]⟩) n.1
    · rcases List.mem_cons.mp h' with e' | h'
      · exact absurd (List.mem_map.mpr ⟨_, h, by rw [← e']⟩) n.1
      · exact ih n.2 h h'
/-- a number's list, made if it is not there -/
theorem tb_key {K : PySem.W.Frag} {H : Hp} {td em : Addr} {R : List Rec} (B : TbAt K H td R) (RO : RecOk R) (num : Nat) (hem : H em = none) {P : V → Hp → Prop}
    (hP : ∀ a L H', Gw td H H' → Fr c0 H H' ∨ Fr (fun a _ => a = td) H H' → Tb K H' td L (grp R) → (num, V.ref a) ∈ L → (∀ m, m ∈ L.map (·.1) ↔ m = num ∨ grp R m ≠ []) → P (.ref a) H') :
    ∃ kvs, (upd H em (.lst [])) td = some (.dK kvs) ∧ kvs.length < sizeLine ∧ (∀ v, valV kvs (Sum.inl (num : Int)) = some v → P v (upd H em (.lst []))) ∧
      (valV kvs (Sum.inl (num : Int)) = none → P (.ref em) (upd (upd H em (.lst [])) td (.dK (putK kvs (Sum.inl (num : Int)) (.ref em))))) := by
  obtain ⟨L, T, hk⟩ := B.ex
  have f : Fr c0 H (upd H em (.lst [])) := Fr.new hem
  have T1 := T.fr f
  have ll := tb_len T.n1 hk RO
  refine ⟨kvL L, T1.h, Nat.lt_of_le_of_lt (m := 200) (by unfold kvL; rw [List.length_map]; exact ll) (by rw [sizeLine_eq]; decide), fun v hv => ?_, fun hn => ?_⟩
  · have hm := (valV_kvL T.n1 num v).mp hv
    obtain ⟨a, vs, rfl, _⟩ := T.ls _ _ hm
    refine hP a L _ (Gw.of0 f T.h) (.inl f) T1 hm fun m => ?_
    rw [hk]
    refine ⟨.inr, fun z => z.elim (fun e => ?_) id⟩
    subst e
    exact (hk m).mp (List.mem_map.mpr ⟨_, hm, rfl⟩)
  · have nk : num ∉ L.map (·.1) := fun z => by
      obtain ⟨⟨m, u⟩, hm, e⟩ := List.mem_map.mp z
      have e : m = num := e
      subst e
      rw [(valV_kvL T.n1 m u).mpr hm] at hn; cases hn
    have gn : grp R num = [] := by
      by_cases e : grp R num = []
      · exact e
      · exact absurd ((hk num).mpr e) nk
    rw [putK_kvL]
    have eL : putL L num (.ref em) = L ++ [(num, .ref em)] := by unfold putL; rw [if_neg nk]
    have ne : em ≠ td := (T.off hem).2
    have nS : ¬ tS H td em := (T.off hem).1
    have f2 : Fr (fun a _ => a = td) (upd H em (.lst [])) (upd (upd H em (.lst [])) td (.dK (kvL (putL L num (.ref em))))) := Fr.set T1.h rfl trivial
    have f12 : Fr (fun a _ => a = td) H (upd (upd H em (.lst [])) td (.dK (kvL (putL L num (.ref em))))) := f.of0.trans f2
    have h2 : (upd (upd H em (.lst [])) td (.dK (kvL (putL L num (.ref em))))) td = some (.dK (kvL (putL L num (.ref em)))) := upd_same
    refine hP em (putL L num (.ref em)) _ ⟨f12.mono fun a o z => .inl z, fun a t => ?_⟩ (.inr f12) ⟨h2, putL_nodup T.n1 _ _, ?_, fun m u hm => ?_⟩ (by rw [eL]; simp) fun m => ?_
    · obtain ⟨m, hm⟩ := (tS_L h2).mp t
      rw [eL] at hm
      rcases List.mem_append.mp hm with z | z
      · exact .inl ((tS_L T.h).mpr ⟨m, z⟩)
      · cases List.mem_singleton.mp z; exact .inr hem
    · rw [eL, List.map_append, List.nodup_append]
      refine ⟨T.n2, by simp, fun a ha b hb e => ?_⟩
      subst e
      obtain ⟨⟨m, u⟩, hm, e⟩ := List.mem_map.mp ha
      have e1 : a = .ref em := by simpa using hb
      have e : u = a := e
      subst e
      rw [e1] at hm
      exact nS ((tS_L T.h).mpr ⟨m, hm⟩)
    · rw [eL] at hm
      rcases List.mem_append.mp hm with z | z
      · obtain ⟨a, vs, e, ha, d⟩ := T.ls m u z
        refine ⟨a, vs, e, f12.at ha (fun e' => ?_), Dp.frs f12 _ _ (tup_enc2 _) d⟩
        have e' : a = td := e'
        rw [e', T.h] at ha; cases ha
      · cases List.mem_singleton.mp z
        exact ⟨em, [], rfl, by rw [upd_ne ne, upd_same], by rw [gn]; exact .nil⟩
    · rw [putL_mem_keys, hk]
/-- one more in it -/
theorem tb_app {K : PySem.W.Frag} {H H1 : Hp} {td a : Addr} {R : List Rec} {L : List (Nat × V)} {num : Nat} {v c : Int} (T : Tb K H td L (grp R)) (hm : (num, V.ref a) ∈ L) (hk : ∀ m, m ∈ L.map (·.1) ↔ m = num ∨ grp R m ≠ []) (f : Fr c0 H H1) :
    ∃ vs, H1 a = some (.lst vs) ∧ vs.length ≤ R.length ∧ ∀ x, Dp K H1 x (enc2 (v, c)) → Gw td H (upd H1 a (.lst (vs ++ [x]))) ∧ TbAt K (upd H1 a (.lst (vs ++ [x]))) td (R ++ [(num, v, c)]) := by
  have T1 := T.fr f
  obtain ⟨a', vs, e, ha, d⟩ := T1.ls _ _ hm
  cases e
  refine ⟨vs, ha, by rw [d.len, List.length_map]; exact grp_len R num, fun x hx => ?_⟩
  have ne : a ≠ td := fun e => by rw [e, T1.h] at ha; cases ha
  have f2 : Fr (cTb H1 td) H1 (upd H1 a (.lst (vs ++ [x]))) := Fr.set ha (.inr ⟨(tS_L T1.h).mpr ⟨num, hm⟩, _, rfl⟩) trivial
  have h2 : (upd H1 a (.lst (vs ++ [x]))) td = some (.dK (kvL L)) := by rw [upd_ne ne.symm]; exact T1.h
  refine ⟨(Gw.of0 f T.h).trans ⟨f2, fun b t => .inl ?_⟩, ⟨L, ⟨h2, T.n1, T.n2, fun m u hu => ?_⟩, fun m => ?_⟩⟩
  · exact (tS_L T1.h).mpr ((tS_L h2).mp t)
  · obtain ⟨b, ws, rfl, hb, db⟩ := T1.ls m u hu
    by_cases e : m = num
    · subst e
      have eb : V.ref b = V.ref a := by
        have := (valV_kvL T.n1 m _).mpr hu
        rw [(valV_kvL T.n1 m _).mpr hm] at this
        exact (Option.some.inj this).symm
      cases eb
      rw [ha] at hb; cases hb
      refine ⟨a, vs ++ [x], rfl, upd_same, ?_⟩
      rw [grp_app, grp_one, if_pos rfl, List.map_append]
      exact (Dp.frs f2 _ _ (tup_enc2 _) db).append (.cons (Dp.fr f2 _ _ (by simp [enc2, tupD, tupDs]) hx) .nil)
    · have nb : b ≠ a := fun z => e (by rw [z] at hu; exact nodup_inj T.n2 hu hm)
      refine ⟨b, ws, rfl, by rw [upd_ne nb]; exact hb, ?_⟩
      rw [grp_app, grp_one, if_neg e, List.append_nil]
      exact Dp.frs f2 _ _ (tup_enc2 _) db
  · rw [hk, grp_app, grp_one]
    by_cases e : m = num
    · subst e; simp
    · rw [if_neg e, List.append_nil]
      exact ⟨fun z => z.elim (fun q => absurd q e) id, .inr⟩
end BN
namespace BN
open PySem L2 PyProof.Rows
open BNQ (kvE srtE encE)
/-! ### the law's going through all ways of calling -/
theorem SeqP.weak {cs vis new : List Conf} (a : SeqP cs [] new) : SeqP cs vis new :=
  ⟨fun c hc => List.mem_append_right _ (by simpa using a.all c hc), fun k hk s hs => List.mem_append_right _ (by simpa using a.clo k hk s hs), a.rch⟩
theorem SeqP.app0 {cs ds n1 n2 : List Conf} (a : SeqP cs [] n1) (b : SeqP ds [] n2) : SeqP (cs ++ ds) [] (n1 ++ n2) := a.app b.weak
theorem putsB_one (F : BF) (x : Str) (n : Int) : putsB F [x] n = putB F x n := by funext y; simp [putsB, putB]
theorem VReg.app {T : TT'} {a b : List Conf} (h : VReg T a) (h' : VReg T b) : VReg T (a ++ b) := fun k hk => (List.mem_append.mp hk).elim (h k) (h' k)
theorem RecOk.app {a b : List Rec} (h : RecOk a) (h' : RecOk b) : RecOk (a ++ b) := fun m v c hk => (List.mem_append.mp hk).elim (h m v c) (h' m v c)
def spLSee (K : PySem.W.Frag) (n : Nat) : Sp := fun vs H Q _ => ∃ (T : TT') (td bt ae ac af : Addr) (v : V) (num : Nat) (pt : Part) (E F : BF) (fe : List FB) (ns : List Str) (R : List Rec), vs = [v, .int num, .ref bt, .ref af, .ref td] ∧
  SqT K H bt [.ref ae, .ref ac] ∧ TbAt K H td R ∧ RecOk R ∧ GAt (fun a => a = td) K H v ae ac af pt E F fe ∧ GOk T n pt num E F fe ns R.length ∧
  ∀ H' new, Gw td H H' → TbAt K H' td (R ++ recsOf new) → RecOk (recsOf new) → VReg T new → SeqP [(⟨num, pt, E, fe⟩, F)] [] new → (recsOf new).length ≤ pt.vst (vsB fe) → Q .non H'
abbrev plL (qs : List Part) (num : Nat) (k : Nat) : List V := (List.range k).map fun j => V.int ((num + ((qs.take j).map Part.size).sum : Nat) : Int)
theorem lsee_kids {K : PySem.W.Frag} {n : Nat} (T : TT') {td bt ae ac af D PL : Addr} {num n0 : Nat} {E F : BF} {fe : List FB} {ns : List Str} {d : Nat} {qs : List Part} {us : List V} {H : Hp} {R : List Rec} {v : V} {wv s8 s11 : Option V} {Dd : Ends}
    (hbt : SqT K H bt [.ref ae, .ref ac]) (B : TbAt K H td R) (RO : RecOk R) (hD : H D = some (.lst us)) (oD : ¬ tS H td D ∧ D ≠ td) (hP : H PL = some (.lst (plL qs num (qs.length + 1)))) (oP : ¬ tS H td PL ∧ PL ≠ td) (dL : DpAll K H us (qs.map Part.enc)) (lq : qs.length ≤ 100000)
    (bE : BdAt H ae E (bdN d)) (nE : ae ≠ td) (bC : BdAt H ac F (bdN d)) (nC : ac ≠ td) (hF : FunsB (fun a => a = td) K H af fe)
    (hd : d ≤ 1000) (hl : fe.length + d ≤ 1001) (dE : dom E ns) (dF : dom F ns) (env : EOkB fe F) (rg : ∀ x v, F x = some v → -1 ≤ v ∧ v < 200) (er : EnvR T fe) (sz : num + (qs.map Part.size).sum ≤ 200)
    (kid : ∀ i q, qs[i]? = some q → KidOk T n q (num + ((qs.take i).map Part.size).sum) E fe ns d) (cst : R.length + (qs.map fun q => q.vst (vsB fe)).sum ≤ 15000000)
    (fin : ∀ H' new s11', Gw td H H' → TbAt K H' td (R ++ recsOf new) → RecOk (recsOf new) → VReg T new → SeqP (argL qs num E fe F) [] new → (recsOf new).length ≤ (qs.map fun q => q.vst (vsB fe)).sum →
      Dd.nx [some v, some (.int n0), some (.ref bt), some (.ref af), some (.ref td), wv, some (.ref D), some (.ref PL), s8, none, none, s11', none, none, none] H') :
    (tFor (iRng1 (tCons (tCB (rLenSq K) (tCons (tVar 6) tNil)) tNil)) (gName 11) (tDrop (tCall (spLSee K n) [] C8.E0 (tCons (tOp (rIxL K) (tVar 6) (tVar 11)) (tCons (tOp (rIxL K) (tVar 7) (tVar 11)) (tCons (tVar 2) (tCons (tVar 3) (tCons (tVar 4) tNil)))))))) Dd
      [some v, some (.int n0), some (.ref bt), some (.ref af), some (.ref td), wv, some (.ref D), some (.ref PL), s8, none, none, s11, none, none, none] H := by
  have ul : us.length = qs.length := by rw [dL.len, List.length_map]
  refine ⟨_, rfl, D, _, rfl, .inl (SqL.of hD), ((us.length : Nat) : Int), rfl, by omega, by omega, ?_⟩
  refine for_range (lo := 0) (n := us.length) (fun i σ H' => ∃ (s11' : Option V) (new : List Conf), σ = [some v, some (.int n0), some (.ref bt), some (.ref af), some (.ref td), wv, some (.ref D), some (.ref PL), s8, none, none, s11', none, none, none] ∧
      Gw td H H' ∧ TbAt K H' td (R ++ recsOf new) ∧ RecOk (recsOf new) ∧ VReg T new ∧ SeqP (argL (qs.take i) num E fe F) [] new ∧ (recsOf new).length ≤ ((qs.take i).map fun q => q.vst (vsB fe)).sum)
    ⟨s11, [], rfl, B.gw0 (Fr.refl _), by simpa [recsOf] using B, fun m v c z => by simp [recsOf] at z, fun k z => by simp at z, by rw [List.take_zero]; exact SeqP.nil, by simp [recsOf]⟩ ?_ ?_
  · rintro i σ H1 hi ⟨s11', new, rfl, g1, B1, RO1, V1, S1, l1⟩
    obtain ⟨x, hx⟩ := get_lt hi
    obtain ⟨dd, hdd, Dx⟩ := dL.getV hx
    obtain ⟨q, hq, rfl⟩ := map_at hdd
    have kq := kid i q hq
    have k1 := kq.dd
    have e0 : (0 + (i : Nat) : Int) = ((i : Nat) : Int) := Int.zero_add _
    obtain ⟨eD1, oD1⟩ := g1.keep hD oD.1 oD.2
    obtain ⟨eP1, oP1⟩ := g1.keep hP oP.1 oP.2
    have Dx1 := Dp.fr g1.fr _ _ (tup_enc q) Dx
    have ix1 := atI_nat hx
    have ix2 : atI (plL qs num (qs.length + 1)) ((i : Nat) : Int) = some (V.int ((num + ((qs.take i).map Part.size).sum : Nat) : Int)) := atI_nat (by
      show ((List.range (qs.length + 1)).map _)[i]? = _
      rw [List.getElem?_map, List.getElem?_range (by omega)]; rfl)
    rw [← e0] at ix1 ix2
    have mb : bdN d ≤ bdN (q.dpt (dlB fe)) := Nat.sub_le_sub_left (by omega) _
    have tk : (qs.take (i + 1)) = qs.take i ++ [q] := take_more hq
    have szs : ((qs.take (i + 1)).map Part.size).sum ≤ (qs.map Part.size).sum := by
      have := congrArg (fun l => (List.map Part.size l).sum) (List.take_append_drop (i + 1) qs)
      simp only [List.map_append, List.sum_append] at this; omega
    have vsz : ((qs.take (i + 1)).map fun q => q.vst (vsB fe)).sum ≤ (qs.map fun q => q.vst (vsB fe)).sum := by
      have := congrArg (fun l => (List.map (fun q : Part => q.vst (vsB fe)) l).sum) (List.take_append_drop (i + 1) qs)
      simp only [List.map_append, List.sum_append] at this; omega
    rw [tk] at szs vsz
    simp only [List.map_append, List.sum_append, List.map_cons, List.map_nil, List.sum_cons, List.sum_nil] at szs vsz
    have lr : (R ++ recsOf new).length = R.length + (recsOf new).length := List.length_append
    refine ⟨_, rfl, _, rfl, D, _, _, _, rfl, rfl, SqL.of eD1, ix1, _, rfl, _, rfl, PL, _, _, _, rfl, rfl, SqL.of eP1, ix2, _, rfl, _, rfl, _, rfl, ?_⟩
    refine ⟨T, td, bt, ae, ac, af, x, _, q, E, F, fe, ns, R ++ recsOf new, rfl, g1.fr.sqT hbt, B1, RO.app RO1, ⟨Dx1, (bE.fr (fun _ z => nE (cTb_dK _ _ z)) g1.fr).mono mb, nE, (bC.fr (fun _ z => nC (cTb_dK _ _ z)) g1.fr).mono mb, nC, hF.fr cTb_dK g1.fr⟩,
      ⟨kq.ok, dE, dF, env, kq.dp, by omega, by omega, kq.wid, kq.dep, by omega, rg, kq.reg, er, by rw [lr]; omega⟩, fun H2 new2 g2 B2 RO2 V2 S2 l2 => ?_⟩
    refine ⟨_, new ++ new2, rfl, g1.trans g2, by rw [recsOf_app, ← List.append_assoc]; exact B2, by rw [recsOf_app]; exact RO1.app RO2, V1.app V2, ?_, ?_⟩
    · rw [tk, argL_app]; exact S1.app0 S2
    · rw [tk, recsOf_app, List.length_append]
      simp only [List.map_append, List.sum_append, List.map_cons, List.map_nil, List.sum_cons, List.sum_nil]
      omega
  · rintro σ H1 ⟨s11', new, rfl, g1, B1, RO1, V1, S1, l1⟩
    rw [ul, List.take_length] at S1 l1
    exact fin H1 new s11' g1 B1 RO1 V1 S1 l1
end BN
namespace BN
open PySem L2 PyProof.Rows
open BNQ (kvE srtE encE)
theorem plL_more (qs : List Part) (num k : Nat) : plL qs num (k + 1) = plL qs num k ++ [V.int ((num + ((qs.take k).map Part.size).sum : Nat) : Int)] := by
  unfold plL
  rw [List.range_succ, List.map_append]; rfl
theorem tb_setd {K : PySem.W.Frag} {H : Hp} {td : Addr} {R : List Rec} {num i j : Nat} {σ : L2.St} {Q : VK} (h1 : σ[i]? = some (some (V.ref td))) (h2 : σ[j]? = some (some (V.int (num : Nat)))) (B : TbAt K H td R) (RO : RecOk R)
    (hP : ∀ a L H', Gw td H H' → Fr c0 H H' ∨ Fr (fun a _ => a = td) H H' → Tb K H' td L (grp R) → (num, V.ref a) ∈ L → (∀ m, m ∈ L.map (·.1) ↔ m = num ∨ grp R m ≠ []) → Q (.ref a) H') : tDSetd (tVar i) (tVar j) (tLst tNil) σ H Q := by
  refine ⟨_, h1, td, rfl, ?_, ?_⟩
  · obtain ⟨L, TL, _⟩ := B.ex
    exact .inl ⟨_, .inl TL.h⟩
  refine ⟨_, h2, one_sz (Nat.le_of_ble_eq_true rfl), fun em hem => ?_⟩
  obtain ⟨kvs, q1, q2, q3, q4⟩ := tb_key (P := Q) B RO num hem hP
  exact ⟨kvs, Sum.inl (num : Int), q1, rfl, q2, q3, q4⟩
def t_lsee (K : PySem.W.Frag) (n : Nat) : TS :=
  (tSeq (tAsg (tOp (rIxT K) (tVar 0) (tC (.int 0))) (gName 5))
    (tSeq (tAsg (tCall (spInner K) [] C8.E0 (tCons (tVar 0) tNil)) (gName 6))
    (tSeq (tAsg (tLst (tCons (tOp oAdd (tVar 1) (tC (.int 1))) tNil)) (gName 7))
    (tSeq (tFor (iList K (tVar 6)) (gName 8) (tDrop (tBM K "list" rAppend (tVar 7) (tCons (tOp oAdd (tOp (rIxL K) (tVar 7) (tUn oNeg (tC (.int 1)))) (tCall (spSize K 20) [] C8.E0 (tCons (tVar 8) tNil))) tNil))))
    (tSeq (tIfS (tTest (tOp rEq (tVar 5) (tC (.str "name")))) (tDrop (tBM K "list" rAppend (tDSetd (tVar 4) (tVar 1) (tLst tNil)) (tCons (tTup (tCons (tDGet (tOp (rIxT K) (tVar 2) (tC (.int 0))) (tOp (rIxT K) (tVar 0) (tC (.int 1)))) (tCons (tDGet (tOp (rIxT K) (tVar 2) (tC (.int 1))) (tOp (rIxT K) (tVar 0) (tC (.int 1)))) tNil))) tNil))) tNext)
    (tSeq (tIfS (tTest (tOp rEq (tVar 5) (tC (.str "let")))) (tSeq (tDrop (tCall (spLSee K n) [] C8.E0 (tCons (tOp (rIxL K) (tVar 6) (tC (.int 0))) (tCons (tOp (rIxL K) (tVar 7) (tC (.int 0))) (tCons (tVar 2) (tCons (tVar 3) (tCons (tVar 4) tNil)))))))
    (tSeq (tAsg (tTup (tCons (tCall (spLWith K) [] C8.E0 (tCons (tOp (rIxT K) (tVar 2) (tC (.int 0))) (tCons (tLst (tCons (tOp (rIxT K) (tVar 0) (tC (.int 1))) tNil)) (tCons (tVar 1) tNil)))) (tCons (tCall (spLWith K) [] C8.E0 (tCons (tOp (rIxT K) (tVar 2) (tC (.int 1))) (tCons (tLst (tCons (tOp (rIxT K) (tVar 0) (tC (.int 1))) tNil)) (tCons (tVar 1) tNil)))) tNil))) (gName 9))
    (tDrop (tCall (spLSee K n) [] C8.E0 (tCons (tOp (rIxL K) (tVar 6) (tC (.int 1))) (tCons (tOp (rIxL K) (tVar 7) (tC (.int 1))) (tCons (tVar 9) (tCons (tVar 3) (tCons (tVar 4) tNil))))))))) (tIfS (tTest (tOp rEq (tVar 5) (tC (.str "fun")))) (tSeq (tAsg (tCB rDictD (tCons (tVar 3) tNil)) (gName 10))
    (tSeq (sDPut (tVar 10) (tOp (rIxT K) (tVar 0) (tC (.int 1))) (tTup (tCons (tVar 1) (tCons (tVar 0) (tCons (tOp (rIxT K) (tVar 2) (tC (.int 0))) (tCons (tVar 3) tNil))))))
    (tDrop (tCall (spLSee K n) [] C8.E0 (tCons (tOp (rIxL K) (tVar 6) (tC (.int 1))) (tCons (tOp (rIxL K) (tVar 7) (tC (.int 1))) (tCons (tVar 2) (tCons (tVar 10) (tCons (tVar 4) tNil))))))))) (tFor (iRng1 (tCons (tCB (rLenSq K) (tCons (tVar 6) tNil)) tNil)) (gName 11) (tDrop (tCall (spLSee K n) [] C8.E0 (tCons (tOp (rIxL K) (tVar 6) (tVar 11)) (tCons (tOp (rIxL K) (tVar 7) (tVar 11)) (tCons (tVar 2) (tCons (tVar 3) (tCons (tVar 4) tNil))))))))))
    (tIfS (tTest (tOp rEq (tVar 5) (tC (.str "call")))) (tSeq (tAsg (tDGet (tVar 3) (tOp (rIxT K) (tVar 0) (tC (.int 1)))) (gTup K 4 (gCons (gName 12) (gCons (gName 13) (gCons (gName 14) (gCons (gName 10) gNil))))))
    (tSeq (tAsg (tTup (tCons (tCall (spLWith K) [] C8.E0 (tCons (tVar 14) (tCons (tOp (rIxT K) (tVar 13) (tC (.int 2))) (tCons (tVar 12) tNil)))) (tCons (tCall (spLWith K) [] C8.E0 (tCons (tOp (rIxT K) (tVar 2) (tC (.int 1))) (tCons (tOp (rIxT K) (tVar 13) (tC (.int 2))) (tCons (tVar 12) tNil)))) tNil))) (gName 9))
    (tDrop (tCall (spLSee K n) [] C8.E0 (tCons (tOp (rIxT K) (tVar 13) (tC (.int 3))) (tCons (tOp oAdd (tVar 12) (tC (.int 1))) (tCons (tVar 9) (tCons (tVar 10) (tCons (tVar 4) tNil))))))))) tNext)))))))
theorem pure_lsee {K : PySem.W.Frag} {n : Nat} (vs : List V) (H : Hp) (Q : VK) (X : XK) (h : spLSee K (n + 1) vs H Q X) :
    t_lsee K n { nx := fun _ H' => Q .non H', rt := Q } (start ["part", "number", "bounds", "funs", "table", "word", "inner", "places", "one", "more", "known", "k", "place", "fun", "near"] vs) H := by
  obtain ⟨T, td, bt, ae, ac, af, v, num, pt, E, F, fe, ns, R, rfl, hbt, B, RO, W, O, k⟩ := h
  have o1 := O.dp; have o2 := O.d1; have o3 := O.fl; have o4 := O.wid; have o5 := O.dep; have o6 := O.sz; have o7 := O.cst
  have hok := O.ok
  obtain ⟨t, xs, rfl, hT, hx⟩ := inv_head W.v
  refine ⟨_, rfl, t, _, _, _, rfl, rfl, hT, atI_nat (j := 0) rfl, ?_⟩
  refine ⟨_, rfl, .ref t, pt, rfl, W.v, fun D ws H1 f1 hD0 eD1 dL1 => ?_⟩
  refine ⟨_, rfl, _, _, rfl, rfl, one_sz (Nat.le_of_ble_eq_true rfl), fun PL hPL => ?_⟩
  have lws : ws.length = pt.inner.length := by rw [dL1.len, List.length_map]
  have hPL0 := f1.free _ hPL
  have g0 : Fr c0 H1 (upd H1 PL (.lst [.int ((num : Int) + 1)])) := Fr.new hPL
  have eP0 : (upd H1 PL (.lst [.int ((num : Int) + 1)])) PL = some (.lst (plL pt.inner (num + 1) (0 + 1))) := by rw [upd_same]; rfl
  generalize (upd H1 PL (.lst [.int ((num : Int) + 1)])) = H1' at g0 eP0 ⊢
  refine ⟨_, rfl, D, rfl, ⟨_, SqL.of (g0.at eD1 (fun z => z))⟩, ?_⟩
  refine for_list (K := K) (a := D) (xs := ws) (fun i σ H' => ∃ s8, σ = [some (.ref t), some (.int num), some (.ref bt), some (.ref af), some (.ref td), some (.str pt.word), some (.ref D), some (.ref PL), s8, none, none, none, none, none, none] ∧ Fr c0 H1 H' ∧ H' PL = some (.lst (plL pt.inner (num + 1) (i + 1))))
    ⟨_, rfl, g0, eP0⟩ (fun i σ H' _ ⟨_, _, f, _⟩ => SqL.of (f.at eD1 (fun z => z))) ?_ ?_
  · rintro i x σ H' hx ⟨s8, rfl, f', eP⟩
    obtain ⟨dd, hdd, Dx⟩ := dL1.getV hx
    obtain ⟨q, hq, rfl⟩ := map_at hdd
    have hm := List.mem_of_getElem? hq
    have h1 := dep_inner pt q hm
    have h2 := wid_inner pt q hm
    have li := at_lt hq
    have lin := len_inner pt
    have eP' := eP
    rw [plL_more] at eP'
    refine ⟨_, rfl, .inl ⟨rfl, _, SqL.of eP⟩, _, rfl, _, rfl, PL, _, _, _, rfl, rfl, SqL.of eP', atI_last _ _, ?_⟩
    refine ⟨_, rfl, x, q, rfl, Dp.fr f' _ _ (tup_enc q) Dx, by omega, by omega, fun H2 f2 => ⟨_, _, rfl, rfl, ?_⟩⟩
    have eP2 := f2.at eP (fun z => z)
    refine ⟨PL, _, _, rfl, rfl, eP2, Nat.lt_of_le_of_lt (m := 2000) (by simp only [plL, List.length_map, List.length_range]; omega) (by rw [sizeLine_eq]; decide), ?_⟩
    refine ⟨_, rfl, (f'.trans f2).fresh hPL, ?_⟩
    rw [upd_same, plL_more pt.inner (num + 1) (i + 1), take_more hq]
    simp only [List.map_append, List.sum_append, List.map_cons, List.map_nil, List.sum_cons, List.sum_nil]
    have e : ((num + 1 + ((pt.inner.take i).map Part.size).sum : Nat) : Int) + (q.size : Int) = ((num + 1 + (((pt.inner.take i).map Part.size).sum + (q.size + 0)) : Nat) : Int) := by omega
    rw [e]
  rintro σ H2 ⟨s8, rfl, f12, eP2⟩
  rw [lws] at eP2
  have f02 := f1.trans f12
  have eD2 := f12.at eD1 (fun z => z)
  have dL2 := Dp.sms f12 _ _ dL1
  have oD0 := B.off hD0
  have oP0 := B.off hPL0
  obtain ⟨otd, htd⟩ := B.there
  have oD2 : ¬ tS H2 td D ∧ D ≠ td := ⟨fun z => oD0.1 (z.fr f02 htd), oD0.2⟩
  have oP2 : ¬ tS H2 td PL ∧ PL ≠ td := ⟨fun z => oP0.1 (z.fr f02 htd), oP0.2⟩
  have B2 := B.fr f02
  have W2 := W.fr (C := c0) (fun _ _ z => z.elim) f02
  have hbt2 := f02.sqT hbt
  have gw02 : Gw td H H2 := Gw.of0 f02 htd
  have lin : pt.inner.length ≤ 100000 := by have := len_inner pt; omega
  -- the end
  have done : ∀ H' new, Gw td H2 H' → TbAt K H' td (R ++ (recC (⟨num, pt, E, fe⟩, F) ++ recsOf new)) → RecOk (recC (⟨num, pt, E, fe⟩, F)) → RecOk (recsOf new) → VReg T new → SeqP (succs (⟨num, pt, E, fe⟩, F)) [] new → (recC (⟨num, pt, E, fe⟩, F)).length + (recsOf new).length ≤ pt.vst (vsB fe) → Q .non H' := fun H' new g Bt r1 r2 V S l => by
    have er : recsOf ([(⟨num, pt, E, fe⟩, F)] ++ new) = recC (⟨num, pt, E, fe⟩, F) ++ recsOf new := by rw [recsOf_app]; simp [recsOf]
    refine k H' ([(⟨num, pt, E, fe⟩, F)] ++ new) (gw02.trans g) (by rw [er]; exact Bt) (by rw [er]; exact r1.app r2) (VReg.app (fun c hc => by rw [List.mem_singleton.mp hc]; exact O.reg.self) V) (SeqP.wrap S.weak) (by rw [er, List.length_append]; exact l)
  have nil : RecOk [] := fun m v c z => by simp at z
  have flat : ∀ (qs : List Part) (s8' : Option V) (Dd : Ends), pt.inner = qs → recC (⟨num, pt, E, fe⟩, F) = [] → succs (⟨num, pt, E, fe⟩, F) = argL qs (num + 1) E fe F → pt.size = 1 + (qs.map Part.size).sum → (qs.map fun q => q.vst (vsB fe)).sum ≤ pt.vst (vsB fe) →
      (∀ i q, qs[i]? = some q → KidOk T n q (num + 1 + ((qs.take i).map Part.size).sum) E fe ns (pt.dpt (dlB fe))) → decide (V.str pt.word = V.str "call") = false →
      (tSeq (tFor (iRng1 (tCons (tCB (rLenSq K) (tCons (tVar 6) tNil)) tNil)) (gName 11) (tDrop (tCall (spLSee K n) [] C8.E0 (tCons (tOp (rIxL K) (tVar 6) (tVar 11)) (tCons (tOp (rIxL K) (tVar 7) (tVar 11)) (tCons (tVar 2) (tCons (tVar 3) (tCons (tVar 4) tNil)))))))) 
    (tIfS (tTest (tOp rEq (tVar 5) (tC (.str "call")))) (tSeq (tAsg (tDGet (tVar 3) (tOp (rIxT K) (tVar 0) (tC (.int 1)))) (gTup K 4 (gCons (gName 12) (gCons (gName 13) (gCons (gName 14) (gCons (gName 10) gNil))))))
    (tSeq (tAsg (tTup (tCons (tCall (spLWith K) [] C8.E0 (tCons (tVar 14) (tCons (tOp (rIxT K) (tVar 13) (tC (.int 2))) (tCons (tVar 12) tNil)))) (tCons (tCall (spLWith K) [] C8.E0 (tCons (tOp (rIxT K) (tVar 2) (tC (.int 1))) (tCons (tOp (rIxT K) (tVar 13) (tC (.int 2))) (tCons (tVar 12) tNil)))) tNil))) (gName 9))
    (tDrop (tCall (spLSee K n) [] C8.E0 (tCons (tOp (rIxT K) (tVar 13) (tC (.int 3))) (tCons (tOp oAdd (tVar 12) (tC (.int 1))) (tCons (tVar 9) (tCons (tVar 10) (tCons (tVar 4) tNil))))))))) tNext)) { nx := fun _ H' => Q .non H', rt := Q }
      [some (.ref t), some (.int num), some (.ref bt), some (.ref af), some (.ref td), some (.str pt.word), some (.ref D), some (.ref PL), s8', none, none, none, none, none, none] H2 := fun qs s8' Dd eq nr es sz vst kid hc => by
    subst eq
    refine lsee_kids T (num := num + 1) (d := pt.dpt (dlB fe)) (ns := ns) (qs := pt.inner) hbt2 B2 RO eD2 oD2 eP2 oP2 dL2 lin W2.e W2.ne W2.c W2.nc W2.f o2 (by omega) O.dE O.dF O.env O.rg O.ereg (by omega) kid (by omega) fun H3 new s11' g3 B3 RO3 V3 S3 l3 => ?_
    refine ⟨_, rfl, rfl, _, rfl, ifF hc ?_⟩
    refine done H3 new g3 (by rw [nr]; exact B3) (by rw [nr]; exact nil) RO3 V3 (by rw [es]; exact S3) (by rw [nr]; simp only [List.length_nil]; omega)
  cases pt with
  | num m =>
    obtain ⟨t', e, hT3⟩ := inv_num W.v
    cases e
    refine ⟨_, rfl, rfl, _, rfl, ifF (by kernel_rfl) ⟨_, rfl, rfl, _, rfl, ifF (by kernel_rfl) ⟨_, rfl, rfl, _, rfl, ifF (by kernel_rfl) ?_⟩⟩⟩
    exact flat [] _ { nx := fun _ H' => Q .non H', rt := Q } rfl rfl rfl rfl (by simp) (fun i q h => by simp at h) (by kernel_rfl)
  | say a =>
    obtain ⟨t', va, e, hT3, da⟩ := inv_say W.v
    cases e
    simp only [Part.ok] at hok
    simp only [Part.dpt] at o1 o2
    simp only [Part.wid] at o4
    simp only [Part.dep] at o5
    refine ⟨_, rfl, rfl, _, rfl, ifF (by kernel_rfl) ⟨_, rfl, rfl, _, rfl, ifF (by kernel_rfl) ⟨_, rfl, rfl, _, rfl, ifF (by kernel_rfl) ?_⟩⟩⟩
    refine flat [a] _ { nx := fun _ H' => Q .non H', rt := Q } rfl rfl rfl (by simp [Part.size]) (by simp [Part.vst]) (fun i q h => ?_) (by kernel_rfl)
    match i, h with
    | 0, h => cases h; exact ⟨hok, by omega, by simp only [Part.dpt]; omega, by omega, by omega, fun y hy => O.reg y (by simp only [plc, List.mem_cons]; exact .inr (by simpa using hy))⟩
    | i + 1, h => simp at h
  | add a b =>
    obtain ⟨t', va, vb, e, hT3, da, db⟩ := inv_add W.v
    cases e
    simp only [Part.ok] at hok
    simp only [Part.dpt] at o1 o2
    simp only [Part.wid] at o4
    simp only [Part.dep] at o5
    refine ⟨_, rfl, rfl, _, rfl, ifF (by kernel_rfl) ⟨_, rfl, rfl, _, rfl, ifF (by kernel_rfl) ⟨_, rfl, rfl, _, rfl, ifF (by kernel_rfl) ?_⟩⟩⟩
    refine flat [a, b] _ { nx := fun _ H' => Q .non H', rt := Q } rfl rfl rfl (by simp [Part.size]) (by simp [Part.vst]) (fun i q h => ?_) (by kernel_rfl)
    match i, h with
    | 0, h => cases h; exact ⟨hok.1, by omega, by simp only [Part.dpt]; omega, by omega, by omega, fun y hy => O.reg y (by simp only [plc, List.mem_cons, List.mem_append]; exact .inr (.inl (by simpa using hy)))⟩
    | 1, h => cases h; exact ⟨hok.2, by omega, by simp only [Part.dpt]; omega, by omega, by omega, fun y hy => O.reg y (by simp only [plc, List.mem_cons, List.mem_append]; exact .inr (.inr (by simpa using hy)))⟩
    | i + 2, h => simp at h
  | less a b =>
    obtain ⟨t', va, vb, e, hT3, da, db⟩ := inv_less W.v
    cases e
    simp only [Part.ok] at hok
    simp only [Part.dpt] at o1 o2
    simp only [Part.wid] at o4
    simp only [Part.dep] at o5
    refine ⟨_, rfl, rfl, _, rfl, ifF (by kernel_rfl) ⟨_, rfl, rfl, _, rfl, ifF (by kernel_rfl) ⟨_, rfl, rfl, _, rfl, ifF (by kernel_rfl) ?_⟩⟩⟩
    refine flat [a, b] _ { nx := fun _ H' => Q .non H', rt := Q } rfl rfl rfl (by simp [Part.size]) (by simp [Part.vst]) (fun i q h => ?_) (by kernel_rfl)
    match i, h with
    | 0, h => cases h; exact ⟨hok.1, by omega, by simp only [Part.dpt]; omega, by omega, by omega, fun y hy => O.reg y (by simp only [plc, List.mem_cons, List.mem_append]; exact .inr (.inl (by simpa using hy)))⟩
    | 1, h => cases h; exact ⟨hok.2, by omega, by simp only [Part.dpt]; omega, by omega, by omega, fun y hy => O.reg y (by simp only [plc, List.mem_cons, List.mem_append]; exact .inr (.inr (by simpa using hy)))⟩
    | i + 2, h => simp at h
  | ite c a b =>
    obtain ⟨t', vc, va, vb, e, hT3, dc, da, db⟩ := inv_ite W.v
    cases e
    simp only [Part.ok] at hok
    simp only [Part.dpt] at o1 o2
    simp only [Part.wid] at o4
    simp only [Part.dep] at o5
    refine ⟨_, rfl, rfl, _, rfl, ifF (by kernel_rfl) ⟨_, rfl, rfl, _, rfl, ifF (by kernel_rfl) ⟨_, rfl, rfl, _, rfl, ifF (by kernel_rfl) ?_⟩⟩⟩
    refine flat [c, a, b] _ { nx := fun _ H' => Q .non H', rt := Q } rfl rfl rfl (by simp [Part.size]) (by simp [Part.vst]) (fun i q h => ?_) (by kernel_rfl)
    match i, h with
    | 0, h => cases h; exact ⟨hok.1, by omega, by simp only [Part.dpt]; omega, by omega, by omega, fun y hy => O.reg y (by simp only [plc, List.mem_cons, List.mem_append]; exact .inr (.inl (by simpa using hy)))⟩
    | 1, h => cases h; exact ⟨hok.2.1, by omega, by simp only [Part.dpt]; omega, by omega, by omega, fun y hy => O.reg y (by simp only [plc, List.mem_cons, List.mem_append]; exact .inr (.inr (.inl (by simpa using hy))))⟩
    | 2, h => cases h; exact ⟨hok.2.2, by omega, by simp only [Part.dpt]; omega, by omega, by omega, fun y hy => O.reg y (by simp only [plc, List.mem_cons, List.mem_append]; exact .inr (.inr (.inr (by simpa [Nat.add_assoc] using hy))))⟩
    | i + 3, h => simp at h
  | name x =>
    obtain ⟨t', e, hT3⟩ := inv_name W.v
    cases e
    simp only [Part.ok] at hok
    obtain ⟨ve, he⟩ := Option.isSome_iff_exists.mp (O.dE x hok)
    obtain ⟨vc, hc⟩ := Option.isSome_iff_exists.mp (O.dF x hok)
    have hrc := O.rg x vc hc
    have rc : recC (⟨num, .name x, E, fe⟩, F) = [(num, ve, vc)] := by simp [recC, he, hc]
    have szn : num < 200 := by simp only [Part.size] at o6; omega
    have hTn := f02.sqT hT3
    simp only [Part.vst] at o7
    refine ⟨_, rfl, rfl, _, rfl, ifT (by kernel_rfl) ?_⟩
    refine tb_setd (R := R) rfl rfl B2 RO ?_
    · intro a L H3 g3 fr3 T3 hm hk
      have ha3 : ∃ vs, H3 a = some (.lst vs) := by
        obtain ⟨a', vs, e, h, _⟩ := T3.ls _ _ hm
        cases e; exact ⟨vs, h⟩
      obtain ⟨vs3, ha3⟩ := ha3
      refine ⟨.inl ⟨rfl, _, SqL.of ha3⟩, ?_⟩
      have hTn3 := g3.fr.sqT hTn
      have hbt3 := g3.fr.sqT hbt2
      have bE3 := W2.e.fr (C := cTb H2 td) (fun _ z => W2.ne (cTb_dK _ _ z)) g3.fr
      have bC3 := W2.c.fr (C := cTb H2 td) (fun _ z => W2.nc (cTb_dK _ _ z)) g3.fr
      obtain ⟨E1, hE1, ndE, relE, _⟩ := bE3.ex
      obtain ⟨E2, hE2, ndC, relC, _⟩ := bC3.ex
      have r1 := relE x
      have r2 := relC x
      rw [he] at r1
      rw [hc] at r2
      refine ⟨_, rfl, bt, _, _, _, rfl, rfl, hbt3, rfl, _, rfl, t, _, _, _, rfl, rfl, hTn3, rfl, ae, _, rfl, by have := DGet.k (k := Sum.inr x) hE1; rw [r1] at this; exact this, ?_⟩
      refine ⟨_, rfl, bt, _, _, _, rfl, rfl, hbt3, rfl, _, rfl, t, _, _, _, rfl, rfl, hTn3, rfl, ac, _, rfl, by have := DGet.k (k := Sum.inr x) hE2; rw [r2] at this; exact this, ?_⟩
      refine ⟨one_sz (Nat.le_of_ble_eq_true rfl), fun tt htt => ?_⟩
      have f4 : Fr c0 H3 (upd H3 tt (.tup [.int ve, .int vc])) := Fr.new htt
      obtain ⟨vs4, ha4, lv4, ap4⟩ := tb_app (v := ve) (c := vc) T3 hm hk f4
      refine ⟨a, vs4, .ref tt, rfl, rfl, ha4, Nat.lt_of_le_of_lt (m := 15000000) (by omega) (by rw [sizeLine_eq]; decide), ?_⟩
      obtain ⟨g5, B5⟩ := ap4 (.ref tt) (.tup (SqT.of upd_same) (.cons (.int _) (.cons (.int _) .nil)))
      generalize (upd (upd H3 tt (.tup [.int ve, .int vc])) a (.lst (vs4 ++ [.ref tt]))) = H5 at g5 B5 ⊢
      have g25 := g3.trans g5
      obtain ⟨eD5, oD5⟩ := g25.keep eD2 oD2.1 oD2.2
      obtain ⟨eP5, oP5⟩ := g25.keep eP2 oP2.1 oP2.2
      have W5 := W2.fr cTb_dK g25.fr
      have RO1 : RecOk [(num, ve, vc)] := fun m v c z => by cases List.mem_singleton.mp z; exact ⟨szn, hrc⟩
      refine ⟨_, rfl, rfl, _, rfl, ifF (by kernel_rfl) ⟨_, rfl, rfl, _, rfl, ifF (by kernel_rfl) ?_⟩⟩
      refine lsee_kids T (num := num + 1) (d := (Part.name x).dpt (dlB fe)) (ns := ns) (qs := []) (g25.fr.sqT hbt2) B5 (RO.app RO1) eD5 ⟨oD5, oD2.2⟩ eP5 ⟨oP5, oP2.2⟩ (Dp.frs g25.fr _ _ (tupDs_P _) dL2) (Nat.zero_le _) W5.e W5.ne W5.c W5.nc W5.f o2 (by omega) O.dE O.dF O.env O.rg O.ereg (by simp only [Part.size] at o6; simpa using o6) (fun i q h => by simp at h) (by simp only [List.length_append, List.length_singleton, List.map_nil, List.sum_nil]; omega) fun H6 new s11' g6 B6 RO6 V6 S6 l6 => ?_
      refine ⟨_, rfl, rfl, _, rfl, ifF (by kernel_rfl) ?_⟩
      have l6' : (recsOf new).length = 0 := by simpa using l6
      refine done H6 new (g25.trans g6) (by rw [rc, ← List.append_assoc]; exact B6) (by rw [rc]; exact RO1) RO6 V6 S6 (by rw [rc]; simp only [List.length_singleton, Part.vst]; omega)
  | lt x a b =>
    obtain ⟨t', va, vb, e, hT3, da, db⟩ := inv_lt W.v
    cases e
    simp only [Part.ok] at hok
    have e1 : (Part.lt x a b).dpt (dlB fe) = 1 + max (a.dpt (dlB fe)) (b.dpt (dlB fe)) := by simp [Part.dpt]
    have e2 : (Part.lt x a b).vst (vsB fe) = a.vst (vsB fe) + b.vst (vsB fe) := by simp [Part.vst]
    rw [e1] at o1 o2 o3
    rw [e2] at o7
    simp only [Part.wid] at o4
    simp only [Part.dep] at o5
    simp only [Part.size] at o6
    have ma : bdN ((Part.lt x a b).dpt (dlB fe)) ≤ bdN (a.dpt (dlB fe)) := Nat.sub_le_sub_left (by rw [e1]; omega) _
    have mb : bdN ((Part.lt x a b).dpt (dlB fe)) + 1 ≤ bdN (b.dpt (dlB fe)) := by
      show 50000 - 13 * (Part.lt x a b).dpt (dlB fe) + 1 ≤ 50000 - 13 * b.dpt (dlB fe)
      rw [e1]; omega
    have m0 : bdN ((Part.lt x a b).dpt (dlB fe)) + 1 ≤ 100000 := Nat.le_trans (Nat.succ_le_succ (Nat.sub_le _ _)) (by decide)
    obtain ⟨wa, wb, rfl, dwa, dwb⟩ := all2 dL2
    have p0 : atI (plL (Part.lt x a b).inner (num + 1) ((Part.lt x a b).inner.length + 1)) 0 = some (V.int ((num + 1 : Nat) : Int)) := atI_nat (j := 0) rfl
    have p1 : atI (plL (Part.lt x a b).inner (num + 1) ((Part.lt x a b).inner.length + 1)) 1 = some (V.int ((num + 1 + a.size : Nat) : Int)) := atI_nat (j := 1) (by
      show some (V.int ((num + 1 + (a.size + 0) : Nat) : Int)) = _
      rfl)
    refine ⟨_, rfl, rfl, _, rfl, ifF (by kernel_rfl) ?_⟩
    refine ⟨_, rfl, rfl, _, rfl, ifT (by kernel_rfl) ?_⟩
    refine ⟨_, rfl, D, _, _, _, rfl, rfl, SqL.of eD2, rfl, _, rfl, PL, _, _, _, rfl, rfl, SqL.of eP2, p0, _, rfl, _, rfl, _, rfl, ?_⟩
    refine ⟨T, td, bt, ae, ac, af, wa, num + 1, a, E, F, fe, ns, R, rfl, hbt2, B2, RO, ⟨dwa, W2.e.mono ma, W2.ne, W2.c.mono ma, W2.nc, W2.f⟩,
      ⟨hok.2.1, O.dE, O.dF, O.env, by omega, by omega, by omega, by omega, by omega, by omega, O.rg, fun y hy => O.reg y (by simp only [plc, List.mem_cons, List.mem_append]; exact .inr (.inl hy)), O.ereg, by omega⟩, fun H3 new1 g3 B3 RO3 V3 S3 l3 => ?_⟩
    obtain ⟨eD3, oD3⟩ := g3.keep eD2 oD2.1 oD2.2
    obtain ⟨eP3, oP3⟩ := g3.keep eP2 oP2.1 oP2.2
    have W3 := W2.fr cTb_dK g3.fr
    have hbt3 := g3.fr.sqT hbt2
    have hT4 := g3.fr.sqT (f02.sqT hT3)
    obtain ⟨otd3, htd3⟩ := B3.there
    refine ⟨_, rfl, bt, _, _, _, rfl, rfl, hbt3, rfl, _, rfl, t, _, _, _, rfl, rfl, hT4, rfl, one_sz (Nat.le_of_ble_eq_true rfl), fun q1 hq1 => ?_⟩
    have f4 : Fr c0 H3 (upd H3 q1 (.lst [.str x])) := Fr.new hq1
    refine ⟨_, rfl, ae, q1, [x], (num : Int), E, _, rfl, .inl (SqL.of upd_same), (W3.e.fr (C := c0) (fun _ z => z) f4), m0, fun p5 H4 f5 hp5 b5 => ?_⟩
    have f45 := f4.trans f5
    refine ⟨_, rfl, bt, _, _, _, rfl, rfl, f45.sqT hbt3, rfl, _, rfl, t, _, _, _, rfl, rfl, f45.sqT hT4, rfl, one_sz (Nat.le_of_ble_eq_true rfl), fun q2 hq2 => ?_⟩
    have f6 : Fr c0 H4 (upd H4 q2 (.lst [.str x])) := Fr.new hq2
    refine ⟨_, rfl, ac, q2, [x], (num : Int), F, _, rfl, .inl (SqL.of upd_same), (W3.c.fr (C := c0) (fun _ z => z) (f45.trans f6)), m0, fun p6 H5 f7 hp6 c5 => ?_⟩
    have f67 := f6.trans f7
    refine ⟨one_sz (Nat.le_of_ble_eq_true rfl), fun bt2 hbt2' => ?_⟩
    have f8 : Fr c0 H5 (upd H5 bt2 (.tup [.ref p5, .ref p6])) := Fr.new hbt2'
    have f38 := (f45.trans f67).trans f8
    have b8 := b5.fr (C := c0) (fun _ z => z) (f67.trans f8)
    have c8 := c5.fr (C := c0) (fun _ z => z) f8
    have hbt8 : SqT K (upd H5 bt2 (.tup [.ref p5, .ref p6])) bt2 [.ref p5, .ref p6] := SqT.of upd_same
    have n5 : p5 ≠ td := fun z => by
      have := f4.free _ hp5
      rw [z, htd3] at this; cases this
    have n6 : p6 ≠ td := fun z => by
      have := (f45.trans f6).free _ hp6
      rw [z, htd3] at this; cases this
    generalize (upd H5 bt2 (.tup [.ref p5, .ref p6])) = H8 at f38 b8 c8 hbt8 ⊢
    rw [putsB_one] at b8 c8
    have W8 := W3.fr (C := c0) (fun _ _ z => z.elim) f38
    have lr : (R ++ recsOf new1).length = R.length + (recsOf new1).length := List.length_append
    refine ⟨_, rfl, D, _, _, _, rfl, rfl, SqL.of (f38.at eD3 (fun z => z)), rfl, _, rfl, PL, _, _, _, rfl, rfl, SqL.of (f38.at eP3 (fun z => z)), p1, _, rfl, _, rfl, _, rfl, ?_⟩
    refine ⟨T, td, bt2, p5, p6, af, wb, num + 1 + a.size, b, putB E x num, putB F x num, fe, ns ++ [x], R ++ recsOf new1, rfl, hbt8, B3.fr f38, RO.app RO3, ⟨Dp.fr (g3.fr.trans f38.of0) _ _ (tup_enc b) dwb, b8.mono mb, n5, c8.mono mb, n6, W8.f⟩,
      ⟨hok.2.2, O.dE.put _ _, O.dF.put _ _, O.env.mono fun y hy => putB_some y hy, by omega, by omega, by omega, by omega, by omega, by omega, fun y v hv => ?_, fun y hy => O.reg y (by simp only [plc, List.mem_cons, List.mem_append]; exact .inr (.inr hy)), O.ereg, by rw [lr]; omega⟩, fun H9 new2 g9 B9 RO9 V9 S9 l9 => ?_⟩
    · unfold putB at hv
      split at hv
      · cases hv; omega
      · exact O.rg y v hv
    · refine ⟨_, rfl, rfl, _, rfl, ifF (by kernel_rfl) ?_⟩
      refine done H9 (new1 ++ new2) ((g3.trans (B3.gw0 f38)).trans g9) (by rw [recsOf_app]; show TbAt K H9 td (R ++ ([] ++ (recsOf new1 ++ recsOf new2))); rw [List.nil_append, ← List.append_assoc]; exact B9) nil (by rw [recsOf_app]; exact RO3.app RO9) (V3.app V9) (SeqP.app0 S3 S9) (by rw [recsOf_app, List.length_append, e2]; show 0 + _ ≤ _; omega)
  | fn f ps b r =>
    obtain ⟨t', tp, vb, vr, e, hT3, hTp, db, dr⟩ := inv_fn W.v
    cases e
    simp only [Part.ok] at hok
    have e1 : (Part.fn f ps b r).dpt (dlB fe) = 1 + max (b.dpt (dlB fe)) (r.dpt (putD (dlB fe) f (b.dpt (dlB fe)))) := by simp [Part.dpt]
    have e2 : (Part.fn f ps b r).vst (vsB fe) = r.vst (putD (vsB fe) f (b.vst (vsB fe))) := by simp [Part.vst]
    rw [e1] at o1 o2 o3
    rw [e2] at o7
    simp only [Part.wid] at o4
    simp only [Part.dep] at o5
    simp only [Part.size] at o6
    obtain ⟨wa, wb, rfl, dwa, dwb⟩ := all2 dL2
    have p1 : atI (plL (Part.fn f ps b r).inner (num + 1) ((Part.fn f ps b r).inner.length + 1)) 1 = some (V.int ((num + 1 + b.size : Nat) : Int)) := atI_nat (j := 1) (by
      show some (V.int ((num + 1 + (b.size + 0) : Nat) : Int)) = _
      rfl)
    have mr : bdN ((Part.fn f ps b r).dpt (dlB fe)) ≤ bdN (r.dpt (putD (dlB fe) f (b.dpt (dlB fe)))) := Nat.sub_le_sub_left (by rw [e1]; omega) _
    have mb : bdN ((Part.fn f ps b r).dpt (dlB fe)) ≤ bdN (1 + b.dpt (dlB fe)) := Nat.sub_le_sub_left (by rw [e1]; omega) _
    refine ⟨_, rfl, rfl, _, rfl, ifF (by kernel_rfl) ⟨_, rfl, rfl, _, rfl, ifF (by kernel_rfl) ?_⟩⟩
    refine ⟨_, rfl, rfl, _, rfl, ifT (by kernel_rfl) ?_⟩
    obtain ⟨kvs, hk, hkl⟩ := W2.f.dict
    refine ⟨_, rfl, af, kvs, rfl, .inl hk, fun kn hkn => ?_⟩
    have f1 : Fr c0 H2 (upd H2 kn (.dK kvs)) := Fr.new hkn
    have hT4 := f1.sqT (f02.sqT hT3)
    have nkn := (B2.off hkn).2
    refine ⟨_, rfl, _, rfl, _, rfl, bt, _, _, _, rfl, rfl, f1.sqT hbt2, rfl, _, rfl, one_sz (by show 4 ≤ 1000; decide), fun tt htt => ?_⟩
    have f2 : Fr c0 (upd H2 kn (.dK kvs)) (upd (upd H2 kn (.dK kvs)) tt (.tup [.int num, .ref t, .ref ae, .ref af])) := Fr.new htt
    have nkt : kn ≠ tt := ne_of_none upd_same htt
    refine ⟨_, rfl, _, rfl, t, _, _, _, rfl, rfl, f2.sqT hT4, rfl, kn, _, rfl, DPut.k (k := Sum.inr f) (by rw [upd_ne nkt, upd_same]) (Nat.lt_of_lt_of_le (m := 2000) (by omega) (by rw [sizeLine_eq]; decide)), ?_⟩
    have f3 : Fr c0 H2 (upd (upd (upd H2 kn (.dK kvs)) tt (.tup [.int num, .ref t, .ref ae, .ref af])) kn (.dK (putK kvs (Sum.inr f) (.ref tt)))) := (f1.trans f2).fresh hkn
    have htt3 : (upd (upd (upd H2 kn (.dK kvs)) tt (.tup [.int num, .ref t, .ref ae, .ref af])) kn (.dK (putK kvs (Sum.inr f) (.ref tt)))) tt = some (.tup [.int num, .ref t, .ref ae, .ref af]) := by rw [upd_ne nkt.symm, upd_same]
    have hkn3 : (upd (upd (upd H2 kn (.dK kvs)) tt (.tup [.int num, .ref t, .ref ae, .ref af])) kn (.dK (putK kvs (Sum.inr f) (.ref tt)))) kn = some (.dK (putK kvs (Sum.inr f) (.ref tt))) := upd_same
    generalize (upd (upd (upd H2 kn (.dK kvs)) tt (.tup [.int num, .ref t, .ref ae, .ref af])) kn (.dK (putK kvs (Sum.inr f) (.ref tt)))) = H3 at f3 htt3 hkn3 ⊢
    have W3 := W2.fr (C := c0) (fun _ _ z => z.elim) f3
    refine ⟨_, rfl, D, _, _, _, rfl, rfl, SqL.of (f3.at eD2 (fun z => z)), rfl, _, rfl, PL, _, _, _, rfl, rfl, SqL.of (f3.at eP2 (fun z => z)), p1, _, rfl, _, rfl, _, rfl, ?_⟩
    refine ⟨T, td, bt, ae, ac, kn, wb, num + 1 + b.size, r, E, F, ⟨num, f, ps, b, r, E⟩ :: fe, ns, R, rfl, f3.sqT hbt2, B2.fr f3, RO,
      ⟨Dp.fr f3 _ _ (tup_enc r) dwb, W3.e.mono mr, W3.ne, W3.c.mono mr, W3.nc, ⟨af, tt, ae, .ref t, kvs, W3.f, f3.at hk (fun z => z), hkn3, nkn, SqT.of htt3, W3.v, W3.e.mono mb, W3.ne⟩⟩,
      ⟨hok.2.2.2.2.2, O.dE, O.dF, ⟨O.env, ns, O.dF, O.dE, hok.2.2.2.2.1, hok.2.1, by show fe.length + b.dpt (dlB fe) ≤ 1000; omega, by show b.wid ≤ 1000; omega, by show b.dep ≤ 20; omega, by show num + 1 + b.size ≤ 200; omega⟩, by simp only [dlB]; omega, by simp only [dlB]; omega, by simp only [dlB, List.length_cons]; omega, by omega, by omega, by omega, O.rg,
        fun y hy => O.reg y (by simp only [plc, List.mem_cons, List.mem_append]; exact .inr (.inr hy)), ⟨O.reg.self, fun y hy => O.reg y (by simp only [plc, List.mem_cons, List.mem_append]; exact .inr (.inl hy)), O.ereg⟩, by simp only [vsB]; omega⟩, fun H5 new g5 B5 RO5 V5 S5 l5 => ?_⟩
    refine ⟨_, rfl, rfl, _, rfl, ifF (by kernel_rfl) ?_⟩
    refine done H5 new ((B2.gw0 f3).trans g5) B5 nil RO5 V5 S5 (by rw [e2]; show 0 + _ ≤ _; simpa only [vsB, Nat.zero_add] using l5)
  | call f as =>
    obtain ⟨t', ta, ws', e, hT3, hA, da⟩ := inv_call W.v
    cases e
    simp only [Part.ok] at hok
    have e1 : (Part.call f as).dpt (dlB fe) = 2 + max (as.dpt (dlB fe)) (dlB fe f) := by simp [Part.dpt]
    have e2 : (Part.call f as).vst (vsB fe) = as.vst (vsB fe) + vsB fe f + 1 := by simp [Part.vst]
    have e3 := parts_vstS (vsB fe) as
    have e4 := parts_size as
    rw [e1] at o1 o2 o3
    rw [e2] at o7
    simp only [Part.wid] at o4
    simp only [Part.dep] at o5
    simp only [Part.size] at o6
    obtain ⟨e, tl, l, efe, ef, hl, hpl, hE, hdl, hvs, hfb⟩ := env_atB hok.1 O.env
    refine ⟨_, rfl, rfl, _, rfl, ifF (by kernel_rfl) ⟨_, rfl, rfl, _, rfl, ifF (by kernel_rfl) ⟨_, rfl, rfl, _, rfl, ifF (by kernel_rfl) ?_⟩⟩⟩
    refine lsee_kids T (num := num + 1) (d := (Part.call f as).dpt (dlB fe)) (ns := ns) (qs := as.list) hbt2 B2 RO eD2 oD2 eP2 oP2 dL2 lin W2.e W2.ne W2.c W2.nc W2.f (by rw [e1]; omega) (by rw [e1]; omega) O.dE O.dF O.env O.rg O.ereg (by omega) (fun i q hq => ?_) (by omega) fun H3 new s11' g3 B3 RO3 V3 S3 l3 => ?_
    · have hm := List.mem_of_getElem? hq
      have d1 := dpt_list (d := dlB fe) hm
      have w1 := wid_list as q hm
      have p1 := dep_list as q hm
      exact ⟨parts_in hok.2 q hm, by omega, by rw [e1]; omega, by omega, by omega, fun y hy => O.reg y (by simp only [plc, List.mem_cons]; exact .inr (plcs_at E fe hq y hy))⟩
    · have W3 := W2.fr cTb_dK g3.fr
      have hT4 := g3.fr.sqT (f02.sqT hT3)
      have hbt3 := g3.fr.sqT hbt2
      have hF3 := W3.f
      rw [efe] at hF3
      obtain ⟨kvs, kn, tt, ne, vp, q1, q2, q3, q4, q5, q6, q7⟩ := FunsB.get hF3 fun x hx => by rw [ef]; exact hl x hx
      rw [ef] at q2
      obtain ⟨fb, tp, vb, vr, rfl, hTf, hTp, db, dr⟩ := inv_fn q5
      obtain ⟨hEO1, ns', dF', dN', hbok, hb12, hbfl, hbw, hbd, hbsz⟩ := id hE
      obtain ⟨otd3, htd3⟩ := B3.there
      have er := EnvR.tail (l := l) (efe ▸ O.ereg)
      have mc : bdN ((Part.call f as).dpt (dlB fe)) ≤ bdN (1 + e.b.dpt (dlB tl)) := Nat.sub_le_sub_left (by rw [e1]; omega) _
      have mb : bdN (1 + e.b.dpt (dlB tl)) + e.ps.length ≤ bdN (e.b.dpt (dlB tl)) := by
        show 50000 - 13 * (1 + e.b.dpt (dlB tl)) + e.ps.length ≤ 50000 - 13 * e.b.dpt (dlB tl)
        omega
      have m0 : bdN (1 + e.b.dpt (dlB tl)) + e.ps.length ≤ 100000 := by
        show 50000 - 13 * (1 + e.b.dpt (dlB tl)) + e.ps.length ≤ 100000
        omega
      refine ⟨_, rfl, rfl, _, rfl, ifT (by kernel_rfl) ?_⟩
      refine ⟨_, rfl, _, rfl, t, _, _, _, rfl, rfl, hT4, rfl, af, _, rfl, by have := DGet.k (k := Sum.inr f) q1; rw [q2] at this; exact this, ?_⟩
      refine ⟨tt, _, rfl, q4, rfl, _, _, rfl, _, _, rfl, _, _, rfl, _, _, rfl, rfl, ?_⟩
      refine ⟨_, rfl, _, rfl, fb, _, _, _, rfl, rfl, hTf, rfl, _, rfl, ?_⟩
      refine ⟨ne, tp, e.ps, (e.n : Int), e.near, _, rfl, .inr hTp, q6, m0, fun p5 H4 f5 hp5 b5 => ?_⟩
      refine ⟨_, rfl, bt, _, _, _, rfl, rfl, f5.sqT hbt3, rfl, _, rfl, fb, _, _, _, rfl, rfl, f5.sqT hTf, rfl, _, rfl, ?_⟩
      refine ⟨ac, tp, e.ps, (e.n : Int), F, _, rfl, .inr (f5.sqT hTp), (W3.c.mono mc).fr (C := c0) (fun _ z => z) f5, m0, fun p6 H5 f6 hp6 c6 => ?_⟩
      refine ⟨one_sz (Nat.le_of_ble_eq_true rfl), fun bt2 hbt2' => ?_⟩
      have f8 : Fr c0 H5 (upd H5 bt2 (.tup [.ref p5, .ref p6])) := Fr.new hbt2'
      have f38 := (f5.trans f6).trans f8
      have b8 := b5.fr (C := c0) (fun _ z => z) (f6.trans f8)
      have c8 := c6.fr (C := c0) (fun _ z => z) f8
      have hbt8 : SqT K (upd H5 bt2 (.tup [.ref p5, .ref p6])) bt2 [.ref p5, .ref p6] := SqT.of upd_same
      have n5 : p5 ≠ td := fun z => by rw [z, htd3] at hp5; cases hp5
      have n6 : p6 ≠ td := fun z => by
        have := f5.free _ hp6
        rw [z, htd3] at this; cases this
      generalize (upd H5 bt2 (.tup [.ref p5, .ref p6])) = H8 at f38 b8 c8 hbt8 ⊢
      have lr : (R ++ recsOf new).length = R.length + (recsOf new).length := List.length_append
      have en : ((e.n : Nat) : Int) + 1 = ((e.n + 1 : Nat) : Int) := by omega
      refine ⟨_, rfl, fb, _, _, _, rfl, rfl, f38.sqT hTf, rfl, _, rfl, _, _, rfl, rfl, _, rfl, _, rfl, _, rfl, ?_⟩
      refine ⟨T, td, bt2, p5, p6, kn, vb, e.n + 1, e.b, putsB e.near e.ps e.n, putsB F e.ps e.n, tl, ns' ++ e.ps, R ++ recsOf new, by show [vb, V.int ((e.n : Int) + 1), _, _, _] = _; rw [en], hbt8, B3.fr f38, RO.app RO3, ⟨Dp.fr f38 _ _ (tup_enc _) db, b8.mono mb, n5, c8.mono mb, n6, q3.fr (C := c0) (fun _ _ z => z.elim) f38⟩,
        ⟨hbok, dN'.puts _ _, dF'.puts _ _, hEO1.mono fun y hy => putsB_some y hy, by omega, by omega, hbfl, hbw, hbd, by omega, fun x v hv => ?_, er.2.1, er.2.2, by rw [lr]; omega⟩, fun H9 new2 g9 B9 RO9 V9 S9 l9 => ?_⟩
      · unfold putsB at hv
        split at hv
        · cases hv; omega
        · exact O.rg x v hv
      · have es : succs (⟨num, .call f as, E, fe⟩, F) = argL as.list (num + 1) E fe F ++ [bodyC e tl F] := by simp only [succs, callC, hfb, argL_list]
        refine done H9 (new ++ new2) ((g3.trans (B3.gw0 f38)).trans g9) (by rw [recsOf_app]; show TbAt K H9 td (R ++ ([] ++ (recsOf new ++ recsOf new2))); rw [List.nil_append, ← List.append_assoc]; exact B9) nil (by rw [recsOf_app]; exact RO3.app RO9) (V3.app V9) (by rw [es]; exact SeqP.app0 S3 S9) (by rw [recsOf_app, List.length_append, e2]; show 0 + _ ≤ _; omega)
end BN
namespace BN
open PySem L2 PyProof.Rows
open BNQ (kvE srtE encE)
/-! ### the law's binders -/
theorem TbAt.nil {K : PySem.W.Frag} {H : Hp} {td : Addr} (h : H td = some (.dK [])) : TbAt K H td [] :=
  ⟨[], ⟨h, List.nodup_nil, List.nodup_nil, fun m u z => by simp at z⟩, fun m => by simp [grp]⟩
theorem list_ints {K : PySem.W.Frag} {H : Hp} {us : List V} {ds : List PyData} {l : List Int} (d : DpAll K H us ds) (dl : ds.length = l.length) (dg : ∀ (k : Nat) (e : PyData), ds[k]? = some e → ∃ x, l[k]? = some x ∧ e = .int x) : us = l.map V.int := by
  rw [eq_map_of_at dl dg] at d
  exact d.ints_inv
def spLBinders (K : PySem.W.Frag) : Sp := fun vs H Q _ => ∃ (v : V) (ins : List Str) (pt : Part), vs = [v] ∧ Dp K H v (encP ins pt) ∧ AllB ins pt ∧ pt.vst (fun _ => 0) ≤ 100000 ∧
  ∀ D us (rows : List BRow) H', Fr c0 H H' → H D = none → H' D = some (.lst us) → DpAll K H' us (rows.map encR) → IsRows (SeenV ins pt) rows → (∀ m v v' c c', SeenV ins pt (m, v, c) → SeenV ins pt (m, v', c') → v = v') → rows.length ≤ 200 → (∀ r ∈ rows, r.2.2.length ≤ 4000) → Q (.ref D) H'
def t_lbinders (K : PySem.W.Frag) (P : Program) (w : World) : TS :=
  (tSeq (tAsg (tCB (rDictP K) (tCons (tLc (iTup K (tOp (rIxT K) (tVar 0) (tC (.int 0)))) (gName 5) tYes (tTup (tCons (tVar 5) (tCons (tUn oNeg (tC (.int 1))) tNil))) [5]) tNil)) (gName 1))
    (tSeq (tAsg tDNewK (gName 2))
    (tSeq (tDrop (tCall (spLSee K 130) [] C8.E0 (tCons (tOp (rIxT K) (tVar 0) (tC (.int 1))) (tCons (tC (.int 0)) (tCons (tTup (tCons (tVar 1) (tCons (tVar 1) tNil))) (tCons tDNewK (tCons (tVar 2) tNil)))))))
    (tSeq (tAsg (tLst tNil) (gName 3))
    (tSeq (tFor (iList K (tCB BNQ.rSortDI (tCons (tVar 2) tNil))) (gName 4) (tDrop (tBM K "list" rAppend (tVar 3) (tCons (tTup (tCons (tVar 4) (tCons (tOp (rIxT K) (tOp (rIxL K) (tDGet (tVar 2) (tVar 4)) (tC (.int 0))) (tC (.int 0))) (tCons (tCB (rTupSq K) (tCons (tCB (BNQ.rSortSI P w) (tCons (tCB (BNS.rSetI2 K P w) (tCons (tLc (iList K (tDGet (tVar 2) (tVar 4))) (gName 6) tYes (tOp (rIxT K) (tVar 6) (tC (.int 1))) [6]) tNil)) tNil)) tNil)) tNil)))) tNil))))
    (tRet (tVar 3)))))))
theorem pure_lbinders {K : PySem.W.Frag} {P : Program} {w : World} (vs : List V) (H : Hp) (Q : VK) (X : XK) (h : spLBinders K vs H Q X) :
    t_lbinders K P w { nx := fun _ H' => Q .non H', rt := Q } (start ["program", "first", "table", "found", "number", "name", "pair"] vs) H := by
  obtain ⟨v, ins, pt, rfl, hd, O, hv, k⟩ := h
  obtain ⟨t, ti, vp, rfl, hT, hI, dp⟩ := inv_P hd
  have oil := O.ok.il
  refine ⟨_, rfl, t, _, _, _, rfl, rfl, hT, rfl, ti, rfl, ⟨_, hI⟩, ?_⟩
  refine lcG_tup (C := c0) (I := fun _ => True) (Good := fun i d => ∃ x, ins[i]? = some x ∧ d = .tuple [.str x, .int (-1)]) hI (fun _ _ _ _ _ => trivial) (fun _ _ _ z => z) trivial (by rw [List.length_map]; omega) (fun i y hy H' f' _ Q' hQ => ?_) fun D us ds H2 hD eD dD dl dg f2 _ => ?_
  · obtain ⟨x, hx, rfl⟩ := map_at hy
    refine ⟨_, rfl, _, rfl, one_sz (Nat.le_of_ble_eq_true rfl), fun u hu => ?_⟩
    exact hQ (.tuple [.str x, .int (-1)]) _ _ ⟨x, hx, rfl⟩ rfl (.tup (SqT.of upd_same) (.cons (.str _) (.cons (.int _) .nil))) (Fr.new hu) trivial
  · rw [List.length_map] at dl
    dsimp only [tNil]
    refine root_dict O.ok.nd eD dD dl (fun k d hk => (dg k d hk).1) fun bd H3 f3 hbd b3 => ?_
    have f03 := f2.trans f3
    intro td htd
    have f4 : Fr c0 H3 (upd H3 td (.dK [])) := Fr.new htd
    have h4 : (upd H3 td (.dK [])) td = some (.dK []) := upd_same
    have nbt : bd ≠ td := by
      obtain ⟨E, hE, _⟩ := b3.ex
      exact ne_of_none hE htd
    have b4 := b3.fr (C := c0) (fun _ z => z) f4
    have f04 := f03.trans f4
    have htd0 := f03.free _ htd
    generalize (upd H3 td (.dK [])) = H4 at f4 f04 h4 b4 ⊢
    refine ⟨_, rfl, t, _, _, _, rfl, rfl, f04.sqT hT, rfl, _, rfl, _, rfl, one_sz (Nat.le_of_ble_eq_true rfl), fun bt hbt => ?_⟩
    have f5 : Fr c0 H4 (upd H4 bt (.tup [.ref bd, .ref bd])) := Fr.new hbt
    intro af haf
    have f6 : Fr c0 (upd H4 bt (.tup [.ref bd, .ref bd])) (upd (upd H4 bt (.tup [.ref bd, .ref bd])) af (.dK [])) := Fr.new haf
    have hbt6 : SqT K (upd (upd H4 bt (.tup [.ref bd, .ref bd])) af (.dK [])) bt [.ref bd, .ref bd] := f6.sqT (SqT.of upd_same)
    have haf6 : (upd (upd H4 bt (.tup [.ref bd, .ref bd])) af (.dK [])) af = some (.dK []) := upd_same
    have f46 := f5.trans f6
    have naf : af ≠ td := (ne_of_none (f5.at h4 (fun z => z)) haf).symm
    generalize (upd (upd H4 bt (.tup [.ref bd, .ref bd])) af (.dK [])) = H6 at f46 hbt6 haf6 ⊢
    have b6 := (b4.fr (C := c0) (fun _ z => z) f46).mono (m' := bdN (pt.dpt (fun _ => 0))) (by have := O.dp; show ins.length ≤ 50000 - 13 * _; omega)
    have dm : dom (rootF ins) ins := fun x hx => by simp [rootF, hx]
    have T6 : TbAt K H6 td [] := TbAt.nil (f46.at h4 (fun z => z))
    have dvp := Dp.fr (f04.trans f46) _ _ (tup_enc pt) dp
    refine ⟨_, rfl, rootT ins pt, td, bt, bd, bd, af, vp, 0, pt, rootF ins, rootF ins, [], ins, [], rfl, hbt6, T6, (fun m v c z => by simp at z), ⟨dvp, b6, nbt, b6, nbt, ⟨haf6, naf⟩⟩,
      ⟨O.ok.ok, dm, dm, trivial, O.dp, by have := O.dp; show pt.dpt (fun _ => 0) ≤ 1000; omega, by have := O.dp; show 0 + pt.dpt (fun _ => 0) ≤ 1000; omega, by have := O.ok.wid; omega, by have := O.ok.dep; omega, by have := O.ok.sz; omega, fun x v hv => ?_, reg_root _ _ _ _, trivial, by have := O.vst; show 0 + pt.vst (fun _ => 0) ≤ 15000000; omega⟩, fun H7 vis g7 T7 RO VR S7 l7 => ?_⟩
    · unfold rootF at hv
      split at hv
      · cases hv; omega
      · cases hv
    rw [List.nil_append] at T7
    have l7' : (recsOf vis).length ≤ 100000 := Nat.le_trans l7 hv
    have SV : ∀ r, r ∈ recsOf vis ↔ SeenV ins pt r := fun r => seq_root S7 r
    have f07 : Fr c0 H H7 := Fr.local' (f04.trans f46) g7.fr fun a o z => by
      rcases z with rfl | ⟨z, _⟩
      · exact htd0
      · obtain ⟨kvs, k, q1, q2⟩ := z
        rw [f46.at h4 (fun z => z)] at q1
        cases q1; simp at q2
    obtain ⟨L, TL, hk⟩ := T7.ex
    have lL := tb_len TL.n1 hk RO
    refine ⟨one_sz (Nat.zero_le _), fun fo hfo => ?_⟩
    have g1 : Fr c0 H7 (upd H7 fo (.lst [])) := Fr.new hfo
    have efo : (upd H7 fo (.lst [])) fo = some (.lst []) := upd_same
    generalize (upd H7 fo (.lst [])) = H8 at g1 efo ⊢
    have nft : fo ≠ td := (T7.off hfo).2
    refine ⟨_, rfl, td, kvL L, L.map fun e => ((e.1 : Nat) : Int), rfl, .inl (g1.at TL.h (fun z => z)), kvL_keys L, by rw [List.length_map]; omega, fun ys sl perm asc hsl => ?_⟩
    have g2 : Fr c0 H8 (upd H8 sl (.lst (ys.map V.int))) := Fr.new hsl
    have esl : (upd H8 sl (.lst (ys.map V.int))) sl = some (.lst (ys.map V.int)) := upd_same
    generalize (upd H8 sl (.lst (ys.map V.int))) = H9 at g2 esl ⊢
    have g79 := g1.trans g2
    have nfs : sl ≠ fo := (ne_of_none efo hsl).symm
    have yl : ys.length ≤ 200 := by rw [perm.length_eq, List.length_map]; exact lL
    have ndy : ys.Nodup := perm.nodup_iff.mpr (by
      have : (L.map fun e => ((e.1 : Nat) : Int)) = (L.map (·.1)).map (fun n : Nat => (n : Int)) := by rw [List.map_map]; rfl
      rw [this]
      exact List.pairwise_map.mpr (List.Pairwise.imp (R := (· ≠ ·)) (fun {a b : Nat} (h : a ≠ b) => fun (e : (a : Int) = (b : Int)) => h (by omega)) (show (L.map (·.1)).Pairwise (· ≠ ·) from TL.n1)))
    have ascy := lt_of_le_nodup ys asc ndy
    refine ⟨sl, rfl, ⟨_, SqL.of esl⟩, ?_⟩
    refine for_list (K := K) (a := sl) (xs := ys.map V.int) (fun i σ H' => ∃ (s4 s5 s6 : Option V) (us : List V) (rows : List BRow), σ = [some (.ref t), some (.ref bd), some (.ref td), some (.ref fo), s4, s5, s6] ∧ Fr c0 H7 H' ∧ H' sl = some (.lst (ys.map V.int)) ∧ H' fo = some (.lst us) ∧ DpAll K H' us (rows.map encR) ∧
        (rows.map fun r => (r.1 : Int)) = ys.take i ∧ ∀ r ∈ rows, RowOk (recsOf vis) r)
      ⟨_, _, _, [], [], rfl, g79, esl, g2.at efo (fun z => z), .nil, by simp, fun r z => by simp at z⟩ (fun i σ H' _ ⟨_, _, _, _, _, _, _, e, _⟩ => SqL.of e) ?_ ?_
    · rintro i x σ H' hx ⟨s4, s5, s6, us, rows, rfl, f', esl', efo', dus, hrow, hok⟩
      obtain ⟨y, hy, rfl⟩ := map_at hx
      obtain ⟨⟨m, u⟩, hm, e⟩ := List.mem_map.mp (perm.mem_iff.mp (List.mem_of_getElem? hy))
      have e : (m : Int) = y := e
      subst e
      obtain ⟨a, ts, rfl, ha, da⟩ := (TL.fr f').ls m u hm
      have hne := (hk m).mp (List.mem_map.mpr ⟨_, hm, rfl⟩)
      have hD' : H' td = some (.dK (kvL L)) := f'.at TL.h (fun z => z)
      have hdg : DGet H' td (V.int ((m : Nat) : Int)) (some (.ref a)) := by have := DGet.k (k := Sum.inl ((m : Nat) : Int)) hD'; rw [(valV_kvL TL.n1 m _).mpr hm] at this; exact this
      have lt : ts.length = (grp (recsOf vis) m).length := by rw [da.len, List.length_map]
      have lg := grp_len (recsOf vis) m
      have hg0 : 0 < (grp (recsOf vis) m).length := List.length_pos_iff.mpr hne
      obtain ⟨t0, ht0⟩ := get_lt (l := ts) (i := 0) (by omega)
      obtain ⟨d0, hd0, D0⟩ := da.getV ht0
      obtain ⟨⟨v0, c0'⟩, hp0, rfl⟩ := map_at hd0
      obtain ⟨tp0, xs0, rfl, hT0, ha0⟩ := Dp.tup_inv (ds := [.int v0, .int c0']) D0
      obtain ⟨w1, w2, rfl, dw1, dw2⟩ := all2 ha0
      cases dw1; cases dw2
      have hin0 : (m, v0, c0') ∈ recsOf vis := grp_mem.mp (List.mem_of_getElem? hp0)
      refine ⟨_, rfl, .inl ⟨rfl, _, SqL.of efo'⟩, _, rfl, _, rfl, _, rfl, td, _, rfl, hdg, a, _, _, _, rfl, rfl, SqL.of ha, atI_nat (j := 0) ht0, tp0, _, _, _, rfl, rfl, hT0, rfl, ?_⟩
      refine ⟨_, rfl, _, rfl, td, _, rfl, hdg, a, rfl, ⟨_, SqL.of ha⟩, ?_⟩
      refine lcG_list (C := c0) (I := fun _ => True) (Good := fun i d => ∃ x : Int, ((grp (recsOf vis) m).map (·.2))[i]? = some x ∧ d = .int x) (SqL.of ha) (fun _ z => z) (fun _ _ _ _ _ => trivial) (fun _ _ _ z => z) trivial (by omega) (fun i y hy H'' f'' _ Q' hQ => ?_) fun D2 us2 ds2 H10 hD2 eD2 dD2 dl2 dg2 f10 _ => ?_
      · obtain ⟨dd, hdd, Dx⟩ := da.getV hy
        obtain ⟨⟨v1, c1⟩, hp1, rfl⟩ := map_at hdd
        obtain ⟨tp1, xs1, rfl, hT1, ha1⟩ := Dp.tup_inv (ds := [.int v1, .int c1]) Dx
        obtain ⟨w1, w2, rfl, dw1, dw2⟩ := all2 ha1
        cases dw1; cases dw2
        refine ⟨_, rfl, tp1, _, _, _, rfl, rfl, f''.sqT hT1, rfl, ?_⟩
        exact hQ (.int c1) _ _ ⟨c1, by rw [List.getElem?_map, hp1]; rfl, rfl⟩ rfl (.int _) (Fr.refl _) trivial
      · have e2 := list_ints (l := (grp (recsOf vis) m).map (·.2)) dD2 (by rw [dl2, List.length_map]; exact lt) fun k d hk => (dg2 k d hk).1
        rw [e2] at eD2
        have few : ∀ x ∈ (grp (recsOf vis) m).map (·.2), -1 ≤ x ∧ x < 200 := fun x hx => by
          obtain ⟨⟨v1, c1⟩, hp, rfl⟩ := List.mem_map.mp hx
          exact (RO _ _ _ (grp_mem.mp hp)).2
        dsimp only [tNil]
        refine ⟨D2, _, rfl, .inl (SqL.of eD2), few_rng few, fun s hs => ?_⟩
        have q1 : Fr c0 H10 (upd H10 s (BNS.SetIO P w s ((grp (recsOf vis) m).map (·.2)))) := Fr.new hs
        have hs1 : (upd H10 s (BNS.SetIO P w s ((grp (recsOf vis) m).map (·.2)))) s = some (BNS.SetIO P w s ((grp (recsOf vis) m).map (·.2))) := upd_same
        generalize (upd H10 s (BNS.SetIO P w s ((grp (recsOf vis) m).map (·.2)))) = H11 at q1 hs1 ⊢
        refine ⟨s, _, rfl, hs1, fun cs y0 pcs mem hy0 => ?_⟩
        have q2 : Fr c0 H11 (upd H11 y0 (.lst (cs.map V.int))) := Fr.new hy0
        have hy1 : (upd H11 y0 (.lst (cs.map V.int))) y0 = some (.lst (cs.map V.int)) := upd_same
        generalize (upd H11 y0 (.lst (cs.map V.int))) = H12 at q2 hy1 ⊢
        refine ⟨y0, _, rfl, .inl ⟨SqL.of hy1, fun tq htq => ?_⟩⟩
        refine ⟨one_sz (Nat.le_of_ble_eq_true rfl), fun tr htr => ?_⟩
        have q3 : Fr c0 H12 (upd H12 tq (.tup (cs.map V.int))) := Fr.new htq
        have q4 : Fr c0 (upd H12 tq (.tup (cs.map V.int))) (upd (upd H12 tq (.tup (cs.map V.int))) tr (.tup [.int (m : Nat), .int v0, .ref tq])) := Fr.new htr
        have dnew : Dp K (upd (upd H12 tq (.tup (cs.map V.int))) tr (.tup [.int (m : Nat), .int v0, .ref tq])) (.ref tr) (encR (m, v0, cs)) := .tup (SqT.of upd_same) (.cons (.int _) (.cons (.int _) (.cons (.tup (SqT.of (q4.tup upd_same)) (DpAll.ints _)) .nil)))
        have q' := ((f10.trans q1).trans q2).trans (q3.trans q4)
        generalize (upd (upd H12 tq (.tup (cs.map V.int))) tr (.tup [.int (m : Nat), .int v0, .ref tq])) = H13 at q' dnew ⊢
        have efo13 := q'.at efo' (fun z => z)
        have rl : rows.length ≤ 200 := by
          have := congrArg List.length hrow
          rw [List.length_map, List.length_take] at this; omega
        refine ⟨fo, us, _, rfl, rfl, efo13, Nat.lt_of_le_of_lt (m := 200) (by rw [dus.len, List.length_map]; exact rl) (by rw [sizeLine_eq]; decide), ?_⟩
        have q5 : Fr (fun a _ => a = fo) H13 (upd H13 fo (.lst (us ++ [.ref tr]))) := Fr.set efo13 rfl trivial
        refine ⟨_, _, _, us ++ [.ref tr], rows ++ [(m, v0, cs)], rfl, (f'.trans q').fresh hfo, by rw [upd_ne nfs]; exact q'.at esl' (fun z => z), upd_same, ?_, ?_, fun r hr => ?_⟩
        · rw [List.map_append]
          exact (Dp.frs q5 _ _ (tup_encR _) (Dp.sms q' _ _ dus)).append (.cons (Dp.fr q5 _ _ (by have := tup_encR [(m, v0, cs)]; simpa [tupDs] using this) dnew) .nil)
        · rw [List.map_append, hrow, take_more hy]; rfl
        · rcases List.mem_append.mp hr with z | z
          · exact hok r z
          · rw [List.mem_singleton.mp z]
            refine ⟨⟨c0', hin0⟩, pcs, fun c => ?_⟩
            rw [mem]
            constructor
            · intro h
              obtain ⟨⟨v1, c1⟩, hp, e⟩ := List.mem_map.mp h
              have e : c1 = c := e
              subst e
              exact ⟨v1, grp_mem.mp hp⟩
            · rintro ⟨v1, h⟩
              exact List.mem_map.mpr ⟨_, grp_mem.mpr h, rfl⟩
    · rintro σ H' ⟨s4, s5, s6, us, rows, rfl, f', esl', efo', dus, hrow, hok⟩
      rw [List.length_map, List.take_length] at hrow
      have rl : rows.length = ys.length := by rw [← hrow, List.length_map]
      refine ⟨_, rfl, k fo us rows H' (f07.trans f') (f07.free _ hfo) efo' dus ⟨?_, fun m => ?_, fun m v cs hm => ?_, fun m v cs hm => ?_⟩ (fun m v v' c c' h h' => near_fun VR ((SV _).mpr h) ((SV _).mpr h')) (by omega) fun r hm => ?_⟩
      · have : ((rows.map (·.1)).map (fun n : Nat => (n : Int))).Pairwise (· < ·) := by rw [List.map_map]; rw [← hrow] at ascy; exact ascy
        rw [List.pairwise_map] at this
        exact this.imp fun h => by omega
      · constructor
        · intro h
          obtain ⟨r, hm, rfl⟩ := List.mem_map.mp h
          obtain ⟨⟨c, q⟩, _⟩ := hok r hm
          exact ⟨_, c, (SV _).mp q⟩
        · rintro ⟨v', c', q⟩
          have q := (SV _).mpr q
          obtain ⟨⟨m', u⟩, hm, e⟩ := List.mem_map.mp ((hk m).mpr (grp_ne.mpr ⟨v', c', q⟩))
          have e : m' = m := e
          subst e
          have : ((m' : Nat) : Int) ∈ ys := perm.mem_iff.mpr (List.mem_map.mpr ⟨(m', u), hm, rfl⟩)
          rw [← hrow] at this
          obtain ⟨r, hm, e⟩ := List.mem_map.mp this
          exact List.mem_map.mpr ⟨r, hm, by omega⟩
      · obtain ⟨⟨c, q⟩, _⟩ := hok _ hm
        exact ⟨c, (SV _).mp q⟩
      · obtain ⟨_, h1, h2⟩ := hok _ hm
        refine ⟨h1, fun c => ?_⟩
        rw [h2]
        exact ⟨fun ⟨v', q⟩ => ⟨v', (SV _).mp q⟩, fun ⟨v', q⟩ => ⟨v', (SV _).mpr q⟩⟩
      · obtain ⟨_, h1, h2⟩ := hok _ hm
        exact few_rng (l := r.2.2) (fun x hx => by
          obtain ⟨v'', q''⟩ := (h2 x).mp hx
          exact (RO _ _ _ q'').2) _ (h1.imp fun h => by omega) fun k hk => hk
end BN
namespace BN
open PySem L2 PyProof.Rows
/-! ### k08's law -/
theorem Drawn.vst1 {d : Int} {ins : List Str} {p : Part} (h : Drawn d ins p) (h5 : d ≤ 5) : p.vst (fun _ => 0) ≤ 100000 := Nat.le_trans (h.vst h5) (by decide)
theorem wd_rows : ∀ l : List BRow, (∀ r ∈ l, r.2.2.length ≤ 4000) → wds (l.map encR) ≤ 4000
  | [], _ => by simp [wds]
  | r :: l, h => by
    have h1 := wd_rows l fun q hq => h q (List.mem_cons_of_mem _ hq)
    have h2 := (ints_small r.2.2).2
    have h3 := h r (List.mem_cons_self ..)
    simp only [List.map_cons, encR, wds, wd, List.length_cons, List.length_nil, List.length_map]
    omega
theorem brows_small (l : List BRow) (h1 : l.length ≤ 200) (h2 : ∀ r ∈ l, r.2.2.length ≤ 4000) : (PyData.list (l.map encR)).depth < 5 ∧ wd (.list (l.map encR)) ≤ 1000000 := by
  have h3 := dep_rows l
  have h4 := wd_rows l h2
  refine ⟨by simp only [PyData.depth]; omega, ?_⟩
  simp only [wd, List.length_map]; omega
/-- which rows are odd, as the law and the program both ask -/
theorem odd_lc {K : PySem.W.Frag} {σ : L2.St} {H1 : Hp} {D : Addr} {us : List V} {rows : List BRow} {Q : VK} {i j : Nat} (hj : j < σ.length) (hs : σ[i]? = some (some (.ref D))) (eD : H1 D = some (.lst us)) (dD : DpAll K H1 us (rows.map encR)) (l1 : rows.length ≤ 200)
    (k : ∀ H', Fr c0 H1 H' → Q (.bl (alikeB rows)) H') :
    tOp (rEqD K) (tLc (iList K (tVar i)) (gName j) (tTest (tOp (rNeD K) (tOp (rIxT K) (tVar j) (tC (.int 2))) (tTup (tCons (tOp (rIxT K) (tVar j) (tC (.int 1))) tNil)))) (tVar j) [j]) (tLst tNil) σ H1 Q := by
  refine ⟨_, hs, D, rfl, ⟨_, SqL.of eD⟩, ?_⟩
  refine filtV_lc (tst := oddR) hj (SqL.of eD) dD (by omega) (fun i x r H' Q' hx hr f' hQ => ?_) fun D2 us2 H2 hD2 eD2 dD2 f2 => ?_
  · obtain ⟨dd, hdd, Dx⟩ := dD.getV hx
    rw [List.getElem?_map, hr] at hdd
    cases hdd
    obtain ⟨t, xs, rfl, hT, ha⟩ := Dp.tup_inv (ds := [.int (r.1 : Nat), .int r.2.1, .tuple (r.2.2.map .int)]) (Dp.sm f' _ _ Dx)
    obtain ⟨a1, a2, a3, rfl, d1, d2, d3⟩ := all3 ha
    cases d1; cases d2
    have h7 : ((wipe σ [j]).set j (some (.ref t)))[j]? = some (some (.ref t)) := by rw [List.getElem?_set_self (by simpa [wipe] using hj)]
    refine ⟨_, h7, t, _, _, _, rfl, rfl, hT, rfl, _, h7, t, _, _, _, rfl, rfl, hT, rfl, one_sz (Nat.le_of_ble_eq_true rfl), fun u hu => ?_⟩
    have g : Fr c0 H' (upd H' u (.tup [.int r.2.1])) := Fr.new hu
    refine ⟨.tuple (r.2.2.map .int), .tuple ([r.2.1].map .int), Dp.sm g _ _ d3, .tup (SqT.of upd_same) (.cons (.int _) .nil), shaped_tints _, shaped_tints _, _, rfl, ?_⟩
    have : (!PyData.eqv (.tuple (r.2.2.map .int)) (.tuple ([r.2.1].map .int))) = oddR r := by
      simp only [PyData.eqv, eqv_ints]
    rw [this]
    exact hQ _ g
  · refine ⟨one_sz (Nat.zero_le _), fun W hW => ?_⟩
    have g : Fr c0 H2 (upd H2 W (.lst [])) := Fr.new hW
    refine ⟨.list ((rows.filter oddR).map encR), .list [], .lst (SqL.of (g.at eD2 (fun z => z))) (Dp.sms g _ _ dD2), .lst (SqL.of upd_same) .nil, shaped_rows _, shaped_rows [], ?_⟩
    have : PyData.eqv (.list ((rows.filter oddR).map encR)) (.list []) = alikeB rows := by
      unfold alikeB
      cases q : rows.filter oddR with
      | nil => simp [PyData.eqv, PyData.eqvAll]
      | cons a r => simp [PyData.eqv, PyData.eqvAll]
    rw [this]
    exact k _ (f2.trans g)
def t_law8 (K : PySem.W.Frag) : TS :=
  (tSeq (tAsg (tCall (spBegun K) [] C8.E0 (tCons (tVar 0) tNil)) (gName 1))
    (tSeq (tFor (iRng1 (tCons (tC (.int 2)) tNil)) (gName 2) (tSeq (tAsg (tCall (spProgram K) [] C8.E0 (tCons (tVar 1) (tCons (tOp oSub (tC (.int 5)) (tVar 2)) tNil))) (gName 3))
    (tSeq (tAsg (tCall (spLBinders K) [] C8.E0 (tCons (tVar 3) tNil)) (gName 4))
    (tSeq (tFor (iRng1 (tCons (tC (.int 2)) tNil)) (gName 5) (tSeq (tAsg (tCall (spBinders K) [] C8.E0 (tCons (tVar 3) tNil)) (gName 6))
    (tSeq (tIfS (tNot (tB (tCall (spAlike K 5) [] C8.E0 (tCons (tVar 6) (tCons (tVar 4) tNil))))) (tRet (tC (.bl false))) tNext)
    (tDrop (tBM K "list" rAppend (tVar 6) (tCons (tTup tNil) tNil))))))
    (tIfS (tNot (tB (tCall (spAlike K 5) [] C8.E0 (tCons (tCall (spIsAlike K) [] C8.E0 (tCons (tVar 3) tNil)) (tCons (tOp (rEqD K) (tLc (iList K (tVar 4)) (gName 7) (tTest (tOp (rNeD K) (tOp (rIxT K) (tVar 7) (tC (.int 2))) (tTup (tCons (tOp (rIxT K) (tVar 7) (tC (.int 1))) tNil)))) (tVar 7) [7]) (tLst tNil)) tNil))))) (tRet (tC (.bl false))) tNext)))))
    (tRet (tC (.bl true)))))
theorem pure_law8 {K : PySem.W.Frag} (vs : List V) (H : Hp) (Q : VK) (E : XK) (h : spLaw K vs H Q E) :
    t_law8 K { nx := fun _ H' => Q .non H', rt := Q } (start ["script", "box", "turn", "program", "due", "again", "found", "row"] vs) H := by
  obtain ⟨a, ns, rfl, hS, hl, k⟩ := h
  refine ⟨_, rfl, a, ns, rfl, hS, hl, fun bx il H1 f1 B1 => ?_⟩
  refine ⟨2, rfl, by decide, by decide, ?_⟩
  refine for_range (lo := 0) (n := 2) (fun i σ H' => ∃ s2 s3 s4 s5 s6 s7, σ = [some (.ref a), some (.ref bx), s2, s3, s4, s5, s6, s7] ∧ Box H' bx il) ⟨_, _, _, _, _, _, rfl, B1⟩ ?_ ?_
  · rintro i σ H2 hi ⟨s2, s3, s4, s5, s6, s7, rfl, B2⟩
    refine ⟨_, rfl, _, rfl, _, _, rfl, rfl, bx, il, 5 - (0 + (i : Nat)), rfl, B2, by omega, by omega, fun ins pt vp H3 dr hd f3 B3 => ?_⟩
    have O := dr.allB (by omega)
    refine ⟨_, rfl, vp, ins, pt, rfl, hd, O, dr.vst1 (by omega), fun D us rows H4 f4 hD0 eD dD IR fn l1 l2 => ?_⟩
    refine ⟨2, rfl, by decide, by decide, ?_⟩
    refine for_range (lo := 0) (n := 2) (fun i' σ H' => ∃ s5 s6 s7, σ = [some (.ref a), some (.ref bx), some (.int (0 + (i : Nat))), some vp, some (.ref D), s5, s6, s7] ∧ Fr c0 H4 H') ⟨_, _, _, rfl, Fr.refl _⟩ ?_ ?_
    · rintro i' σ H5 hi' ⟨s5, s6, s7, rfl, f5⟩
      refine ⟨_, rfl, vp, ins, pt, rfl, Dp.fr (f4.trans f5) _ _ (tup_encP ins pt) hd, O, fun D2 us2 rows2 H6 f6 hD2 eD2 dD2 IR2 l12 l22 => ?_⟩
      have er : rows2 = rows := rows_uniq fn IR2 IR
      subst er
      have sm := brows_small rows2 l1 l2
      have f56 := f5.trans f6
      refine ⟨_, rfl, _, rfl, .ref D2, .ref D, .list (rows2.map encR), rfl, .lst (SqL.of eD2) dD2, .lst (SqL.of (f56.at eD (fun z => z))) (Dp.sms f56 _ _ dD), sm.1, sm.2, true, rfl, ifF rfl ?_⟩
      refine ⟨_, rfl, .inl ⟨rfl, _, SqL.of eD2⟩, one_sz (Nat.zero_le _), fun e he => ?_⟩
      have f7 : Fr c0 H6 (upd H6 e (.tup [])) := Fr.new he
      have eD7 := f7.at eD2 (fun z => z)
      refine ⟨D2, _, _, rfl, rfl, eD7, Nat.lt_of_le_of_lt (m := 200) (by rw [dD2.len, List.length_map]; exact l1) (by rw [sizeLine_eq]; decide), ?_⟩
      exact ⟨_, _, _, rfl, (f56.trans f7).fresh (f5.free _ hD2)⟩
    · rintro σ H5 ⟨s5, s6, s7, rfl, f5⟩
      have f45 := f4.trans f5
      refine ⟨_, rfl, vp, ins, pt, rfl, Dp.fr f45 _ _ (tup_encP ins pt) hd, O, fun rows2 H6 f6 IR2 => ?_⟩
      have er : rows2 = rows := rows_uniq fn IR2 IR
      subst er
      have f56 := f5.trans f6
      refine odd_lc (by show 7 < 8; decide) rfl (f56.at eD (fun z => z)) (Dp.sms f56 _ _ dD) l1 fun H7 f7 => ?_
      refine ⟨.bl (alikeB rows2), .bl (alikeB rows2), .bool (alikeB rows2), rfl, .bl _, .bl _, by simp [PyData.depth], by simp [wd], true, rfl, ifF rfl ?_⟩
      exact ⟨_, _, _, _, _, _, rfl, B3.fr0 (f4.trans (f56.trans f7))⟩
  · rintro σ H2 ⟨s2, s3, s4, s5, s6, s7, rfl, B2⟩
    exact k H2
end BN
namespace BN
open PySem L2 PyProof.Rows
structure Txt (K : PySem.W.Frag) (w : World) (mg : Str → Option Value) (dP : Addr) (es : Array DictEntry) (n0 : Nat) (cChk cLkr : Addr) : Prop where
  b_range : mg "range" = none
  b_len : mg "len" = none
  b_int : mg "int" = none
  b_bool : mg "bool" = none
  b_str : mg "str" = none
  b_list : mg "list" = none
  b_tuple : mg "tuple" = none
  b_sum : mg "sum" = none
  b_isinstance : mg "isinstance" = none
  b_all : mg "all" = none
  b_set : mg "set" = none
  b_dict : mg "dict" = none
  b_zip : mg "zip" = none
  b_sorted : mg "sorted" = none
  b_enumerate : mg "enumerate" = none
  b_reversed : mg "reversed" = none
  b_min : mg "min" = none
  g_SMALL : ∃ u, mg "SMALL" = some u ∧ RelV (.str "abcdefghijklmnopqrstuvwxyz") u
  g_MOST_SIGNS : ∃ u, mg "MOST_SIGNS" = some u ∧ RelV (.int 4) u
  g_MOST_NUMBER : ∃ u, mg "MOST_NUMBER" = some u ∧ RelV (.int 99) u
  g_MOST_INPUTS : ∃ u, mg "MOST_INPUTS" = some u ∧ RelV (.int 3) u
  g_MOST_PARAMS : ∃ u, mg "MOST_PARAMS" = some u ∧ RelV (.int 12) u
  g_MOST_PARTS : ∃ u, mg "MOST_PARTS" = some u ∧ RelV (.int 200) u
  g_INPUTS : ∃ u, mg "INPUTS" = some u ∧ RelV (.int (-1)) u
  g_PARTS : ∃ u, mg "PARTS" = some u ∧ RelV (.ref dP) u
  pt : PTab K w dP es n0
  kd : KDict K w dP es n0
  chk : ChkC K cChk
  lkr : LkC K cLkr
abbrev TxtX {K : PySem.W.Frag} {h : Heap} (_ : K.In h) (w : World) (mg : Str → Option Value) (dP : Addr) (es : Array DictEntry) (n0 : Nat) (cChk cLkr : Addr) : Prop := Txt K w mg dP es n0 cChk cLkr
abbrev ChkCX {K : PySem.W.Frag} {h : Heap} (_ : K.In h) (C : Addr) : Prop := ChkC K C
abbrev LkCX {K : PySem.W.Frag} {h : Heap} (_ : K.In h) (C : Addr) : Prop := LkC K C
def top (i : Nat) : Stmt := PySem.Challenge.pw_bindnear_k08_whole_binders.main.body.getD i (.Pass ⟨0, 0, 0, 0⟩)
abbrev s__law_begun : Stmt := top 25
theorem sc__law_begun : FnScope ["_law_script", "_law_stirred", "_law_cell"] ["_law_script"] (defScope s__law_begun) := ⟨rfl, rfl, rfl, by decide +kernel, rfl, by decide +kernel, by decide +kernel⟩
abbrev s__law_take : Stmt := top 26
theorem sc__law_take : FnScope ["_law_box", "_law_many", "_law_number"] ["_law_box", "_law_many"] (defScope s__law_take) := ⟨rfl, rfl, rfl, by decide +kernel, rfl, by decide +kernel, by decide +kernel⟩
abbrev s__law_leaf : Stmt := top 28
theorem sc__law_leaf : FnScope ["_law_box", "_law_names"] ["_law_box", "_law_names"] (defScope s__law_leaf) := ⟨rfl, rfl, rfl, by decide +kernel, rfl, by decide +kernel, by decide +kernel⟩
abbrev s__law_fun : Stmt := top 29
theorem sc__law_fun : FnScope ["_law_box", "_law_deep", "_law_names", "_law_funs", "_law_words", "_law_name", "_law_params", "_law_body", "_law_known", "_law_rest", "_law_word", "_law_call", "_law_fun_here", "_law_param"] ["_law_box", "_law_deep", "_law_names", "_law_funs", "_law_words"] (defScope s__law_fun) := ⟨rfl, rfl, rfl, by decide +kernel, rfl, by decide +kernel, by decide +kernel⟩
abbrev s__law_part : Stmt := top 30
theorem sc__law_part : FnScope ["_law_box", "_law_deep", "_law_names", "_law_funs", "_law_words", "_law_way", "_law_word", "_law_first", "_law_name", "_law_many", "_law_some", "_law_k"] ["_law_box", "_law_deep", "_law_names", "_law_funs", "_law_words"] (defScope s__law_part) := ⟨rfl, rfl, rfl, by decide +kernel, rfl, by decide +kernel, by decide +kernel⟩
abbrev s__law_inner : Stmt := top 31
theorem sc__law_inner : FnScope ["_law_part_here", "_law_word"] ["_law_part_here"] (defScope s__law_inner) := ⟨rfl, rfl, rfl, by decide +kernel, rfl, by decide +kernel, by decide +kernel⟩
abbrev s__law_size : Stmt := top 32
theorem sc__law_size : FnScope ["_law_part_here", "_law_one"] ["_law_part_here"] (defScope s__law_size) := ⟨rfl, rfl, rfl, by decide +kernel, rfl, by decide +kernel, by decide +kernel⟩
abbrev s__law_program : Stmt := top 33
theorem sc__law_program : FnScope ["_law_box", "_law_deep", "_law_some", "_law_words", "_law_inputs", "_law_part_here"] ["_law_box", "_law_deep"] (defScope s__law_program) := ⟨rfl, rfl, rfl, by decide +kernel, rfl, by decide +kernel, by decide +kernel⟩
abbrev s__law_alike : Stmt := top 27
theorem sc__law_alike : FnScope ["_law_found", "_law_due", "_law_k"] ["_law_found", "_law_due"] (defScope s__law_alike) := ⟨rfl, rfl, rfl, by decide +kernel, rfl, by decide +kernel, by decide +kernel⟩
abbrev s_is_word : Stmt := top 11
theorem sc_is_word : FnScope ["word", "sign"] ["word"] (defScope s_is_word) := ⟨rfl, rfl, rfl, by decide +kernel, rfl, by decide +kernel, by decide +kernel⟩
abbrev s_are_words : Stmt := top 12
theorem sc_are_words : FnScope ["words", "most", "word"] ["words", "most"] (defScope s_are_words) := ⟨rfl, rfl, rfl, by decide +kernel, rfl, by decide +kernel, by decide +kernel⟩
abbrev s_inner_of : Stmt := top 13
theorem sc_inner_of : FnScope ["part", "word"] ["part"] (defScope s_inner_of) := ⟨rfl, rfl, rfl, by decide +kernel, rfl, by decide +kernel, by decide +kernel⟩
abbrev s_Check_must : Stmt := inClass (top 15) 1
theorem sc_Check_must : FnScope ["self", "good", "place"] ["self", "good", "place"] (defScope s_Check_must) := ⟨rfl, rfl, rfl, by decide +kernel, rfl, by decide +kernel, by decide +kernel⟩
abbrev s_Check_look : Stmt := inClass (top 15) 2
theorem sc_Check_look : FnScope ["self", "part", "names", "funs", "place", "word", "known", "one"] ["self", "part", "names", "funs"] (defScope s_Check_look) := ⟨rfl, rfl, rfl, by decide +kernel, rfl, by decide +kernel, by decide +kernel⟩
abbrev s_check_program : Stmt := top 16
theorem sc_check_program : FnScope ["program", "inputs", "part", "check"] ["program"] (defScope s_check_program) := ⟨rfl, rfl, rfl, by decide +kernel, rfl, by decide +kernel, by decide +kernel⟩
abbrev s_size_of : Stmt := top 14
theorem sc_size_of : FnScope ["part", "one"] ["part"] (defScope s_size_of) := ⟨rfl, rfl, rfl, by decide +kernel, rfl, by decide +kernel, by decide +kernel⟩
abbrev s_Looker_see : Stmt := inClass (top 19) 1
theorem sc_Looker_see : FnScope ["self", "number", "near", "called", "some"] ["self", "number", "near", "called"] (defScope s_Looker_see) := ⟨rfl, rfl, rfl, by decide +kernel, rfl, by decide +kernel, by decide +kernel⟩
abbrev s_with_one : Stmt := top 20
theorem sc_with_one : FnScope ["bound", "name", "number", "found"] ["bound", "name", "number"] (defScope s_with_one) := ⟨rfl, rfl, rfl, by decide +kernel, rfl, by decide +kernel, by decide +kernel⟩
abbrev s_Looker_go : Stmt := inClass (top 19) 2
theorem sc_Looker_go : FnScope ["self", "part", "number", "near", "called", "funs", "word", "inner", "known", "one", "some"] ["self", "part", "number", "near", "called", "funs"] (defScope s_Looker_go) := ⟨rfl, rfl, rfl, by decide +kernel, rfl, by decide +kernel, by decide +kernel⟩
abbrev s_Looker_enter : Stmt := inClass (top 19) 3
theorem sc_Looker_enter : FnScope ["self", "fun", "called", "number", "part", "near", "funs", "key", "name"] ["self", "fun", "called"] (defScope s_Looker_enter) := ⟨rfl, rfl, rfl, by decide +kernel, rfl, by decide +kernel, by decide +kernel⟩
abbrev s_looked : Stmt := top 21
theorem sc_looked : FnScope ["program", "looker", "bound", "name"] ["program"] (defScope s_looked) := ⟨rfl, rfl, rfl, by decide +kernel, rfl, by decide +kernel, by decide +kernel⟩
abbrev s_binders : Stmt := top 22
theorem sc_binders : FnScope ["program", "looker", "number"] ["program"] (defScope s_binders) := ⟨rfl, rfl, rfl, by decide +kernel, rfl, by decide +kernel, by decide +kernel⟩
abbrev s_is_alike : Stmt := top 23
theorem sc_is_alike : FnScope ["program", "row"] ["program"] (defScope s_is_alike) := ⟨rfl, rfl, rfl, by decide +kernel, rfl, by decide +kernel, by decide +kernel⟩
abbrev s__law_with : Stmt := top 35
theorem sc__law_with : FnScope ["_law_bound", "_law_names", "_law_number", "_law_found", "_law_name"] ["_law_bound", "_law_names", "_law_number"] (defScope s__law_with) := ⟨rfl, rfl, rfl, by decide +kernel, rfl, by decide +kernel, by decide +kernel⟩
abbrev s__law_see : Stmt := top 36
theorem sc__law_see : FnScope ["_law_part_here", "_law_number", "_law_bounds", "_law_funs", "_law_table", "_law_word", "_law_inner_here", "_law_places", "_law_one", "_law_more", "_law_known", "_law_k", "_law_place", "_law_fun_here", "_law_near"] ["_law_part_here", "_law_number", "_law_bounds", "_law_funs", "_law_table"] (defScope s__law_see) := ⟨rfl, rfl, rfl, by decide +kernel, rfl, by decide +kernel, by decide +kernel⟩
abbrev s__law_binders : Stmt := top 37
theorem sc__law_binders : FnScope ["_law_program_here", "_law_first", "_law_table", "_law_found", "_law_number", "_law_name", "_law_pair"] ["_law_program_here"] (defScope s__law_binders) := ⟨rfl, rfl, rfl, by decide +kernel, rfl, by decide +kernel, by decide +kernel⟩
abbrev s_law : Stmt := top 38
theorem sc_law : FnScope ["_law_script", "_law_box", "_law_turn", "_law_program_here", "_law_due", "_law_again", "_law_found", "_law_row"] ["_law_script"] (defScope s_law) := ⟨rfl, rfl, rfl, by decide +kernel, rfl, by decide +kernel, by decide +kernel⟩
abbrev s_Check___init__ : Stmt := inClass (top 15) 0
theorem sc_Check___init__ : FnScope ["self"] ["self"] (defScope s_Check___init__) := ⟨rfl, rfl, rfl, by decide +kernel, rfl, by decide +kernel, by decide +kernel⟩
abbrev s_Looker___init__ : Stmt := inClass (top 19) 0
theorem sc_Looker___init__ : FnScope ["self"] ["self"] (defScope s_Looker___init__) := ⟨rfl, rfl, rfl, by decide +kernel, rfl, by decide +kernel, by decide +kernel⟩
/-! ### a def, a method, a class as the top has written them -/
def DefOk (K : PySem.W.Frag) (mg : Str → Option Value) (x : Str) (st : Stmt) (ps : List Str) : Prop := ∃ (f : Addr) (fd : FuncData), Fun K x x st f fd ∧ mg x = some (.ref f) ∧ PySem.W.keepIn K (.ref f) = true ∧ Binds K fd ps []
def MetOk (K : PySem.W.Frag) (C : Addr) (m qual : Str) (st : Stmt) (ps : List Str) : Prop := ∃ (f : Addr) (fd : FuncData), Fun K m qual st f fd ∧ Meth K C m f ∧ Binds K fd ps []
def MakOk (K : PySem.W.Frag) (mg : Str → Option Value) (C : Addr) (x qual : Str) (st : Stmt) (ps : List Str) : Prop := ∃ (f : Addr) (fd : FuncData), Fun K "__init__" qual st f fd ∧ Mk K C f ∧ mg x = some (.ref C) ∧ Binds K fd ps []
section
variable {P : Program} {w : World} {K : PySem.W.Frag} {mg : Str → Option Value} {base : Heap} {k : Nat} {x m qual : Str} {C : Addr} {st : Stmt} {ps : List Str} {sp : Sp}
theorem DefOk.cal (D : DefOk K mg x st ps) (h : ∀ f fd, Fun K x x st f fd → FnOk P w K mg base C8.CX0 k f fd ps sp) : C8.Cal P w K mg base k x sp [] := by
  obtain ⟨f, fd, F, hm, kp, b⟩ := D
  exact ⟨f, fd, ps, [], h f fd F, hm, kp, b, .nil⟩
theorem MetOk.cal (D : MetOk K C m qual st ps) (cl : Cls K C) (h : ∀ f fd, Fun K m qual st f fd → FnOk P w K mg base C8.CX0 k f fd ps sp) : C8.Met P w K mg base k C m sp [] := by
  obtain ⟨f, fd, F, me, b⟩ := D
  exact ⟨f, fd, ps, [], cl, me, h f fd F, b, .nil⟩
theorem MakOk.cal (D : MakOk K mg C x qual st ps) (h : ∀ f fd, Fun K "__init__" qual st f fd → FnOk P w K mg base C8.CX0 k f fd ps sp) : C8.Mak P w K mg base k x C sp [] := by
  obtain ⟨f, fd, F, M, hm, b⟩ := D
  exact ⟨f, fd, ps, [], M, h f fd F, hm, b, .nil⟩
abbrev BindOk (x : Str) (st : Stmt) (ps : List Str) : Prop := ∀ (kV doc pm : Value) (an : Option Addr) (cdv ct : Value) (us : List Value), us.length = ps.length → bindArgs (PySem.W.fnOf x x (defArgs st) (defBody st) (defScope st) .none kV doc pm an cdv ct) ⟨us, []⟩ = pure (ps.zip us)
theorem DefOk.of {h : Heap} {f : Addr} {oc : Value} {od an : Option Addr} {osl : Array (Option Value)} {kV doc pm cdv ct : Value} (X : K.In h) (G : h.Ns mainGlobals mg) (a : PySem.W.nsIn K mainGlobals x = some (some (.ref f)))
    (l : K.lookup f = some ⟨oc, od, .func (PySem.W.fnOf x x (defArgs st) (defBody st) (defScope st) .none kV doc pm an cdv ct), osl⟩) (c : PySem.W.codeIn K cdv x = true) (kp : PySem.W.keepIn K (.ref f) = true)
    (b : ∀ (kV doc pm : Value) (an : Option Addr) (cdv ct : Value) (us : List Value), us.length = ps.length → bindArgs (PySem.W.fnOf x x (defArgs st) (defBody st) (defScope st) .none kV doc pm an cdv ct) ⟨us, []⟩ = pure (ps.zip us)) : DefOk K mg x st ps :=
  ⟨f, _, fun_mk l c kp, PySem.W.mg_of X G a, kp, (fun_mk l c kp).binds b⟩
theorem MetOk.of {f : Addr} {oc : Value} {od an : Option Addr} {osl : Array (Option Value)} {kV doc pm cdv ct : Value} (a : PySem.W.findIn K (.ref C) m = some (some (.ref f))) (i : PySem.W.isFn K (.ref f) = true)
    (l : K.lookup f = some ⟨oc, od, .func (PySem.W.fnOf m qual (defArgs st) (defBody st) (defScope st) .none kV doc pm an cdv ct), osl⟩) (c : PySem.W.codeIn K cdv qual = true) (kp : PySem.W.keepIn K (.ref f) = true)
    (b : ∀ (kV doc pm : Value) (an : Option Addr) (cdv ct : Value) (us : List Value), us.length = ps.length → bindArgs (PySem.W.fnOf m qual (defArgs st) (defBody st) (defScope st) .none kV doc pm an cdv ct) ⟨us, []⟩ = pure (ps.zip us)) : MetOk K C m qual st ps :=
  ⟨f, _, fun_mk l c kp, ⟨a, i, kp⟩, (fun_mk l c kp).binds b⟩
theorem MakOk.of {f : Addr} {oc : Value} {od an : Option Addr} {osl : Array (Option Value)} {kV doc pm cdv ct : Value} (hm : mg x = some (.ref C)) (mk : PySem.W.makesIn K C = true) (kc : PySem.W.keepIn K (.ref C) = true) (a : PySem.W.findIn K (.ref C) "__init__" = some (some (.ref f))) (i : PySem.W.isFn K (.ref f) = true)
    (l : K.lookup f = some ⟨oc, od, .func (PySem.W.fnOf "__init__" qual (defArgs st) (defBody st) (defScope st) .none kV doc pm an cdv ct), osl⟩) (c : PySem.W.codeIn K cdv qual = true) (kp : PySem.W.keepIn K (.ref f) = true)
    (b : ∀ (kV doc pm : Value) (an : Option Addr) (cdv ct : Value) (us : List Value), us.length = ps.length → bindArgs (PySem.W.fnOf "__init__" qual (defArgs st) (defBody st) (defScope st) .none kV doc pm an cdv ct) ⟨us, []⟩ = pure (ps.zip us)) : MakOk K mg C x qual st ps :=
  ⟨f, _, fun_mk l c kp, ⟨mk, a, i, kc⟩, hm, (fun_mk l c kp).binds b⟩
theorem law_of {h : Heap} {fa f : Addr} {oc : Value} {od an : Option Addr} {osl : Array (Option Value)} {kV doc pm cdv ct : Value} (X : K.In h) (G : h.Ns mainGlobals mg) (hfa : mg "law" = some (.ref fa)) (a : PySem.W.nsIn K mainGlobals "law" = some (some (.ref f)))
    (l : K.lookup f = some ⟨oc, od, .func (PySem.W.fnOf "law" "law" (defArgs st) (defBody st) (defScope st) .none kV doc pm an cdv ct), osl⟩) (c : PySem.W.codeIn K cdv "law" = true) (kp : PySem.W.keepIn K (.ref f) = true)
    (b : ∀ (s : Shared) (v : Value), BindsTo s (PySem.W.fnOf "law" "law" (defArgs st) (defBody st) (defScope st) .none kV doc pm an cdv ct) ⟨[v], []⟩ [("_law_script", v)]) : ∃ fd : FuncData, Fun K "law" "law" st fa fd ∧ ∀ (s : Shared) (v : Value), BindsTo s fd ⟨[v], []⟩ [("_law_script", v)] := by
  have e := hfa.symm.trans (PySem.W.mg_of X G a)
  cases e
  exact ⟨_, fun_mk l c kp, b⟩
abbrev LawX {K : PySem.W.Frag} {h : Heap} (_ : K.In h) (st : Stmt) (fa : Addr) (fd : FuncData) : Prop := Fun K "law" "law" st fa fd
abbrev DefOkX {K : PySem.W.Frag} {h : Heap} (_ : K.In h) (mg : Str → Option Value) (x : Str) (st : Stmt) (ps : List Str) : Prop := DefOk K mg x st ps
abbrev MetOkX {K : PySem.W.Frag} {h : Heap} (_ : K.In h) (C : Addr) (m qual : Str) (st : Stmt) (ps : List Str) : Prop := MetOk K C m qual st ps
abbrev MakOkX {K : PySem.W.Frag} {h : Heap} (_ : K.In h) (mg : Str → Option Value) (C : Addr) (x qual : Str) (st : Stmt) (ps : List Str) : Prop := MakOk K mg C x qual st ps
abbrev PTabX {K : PySem.W.Frag} {h : Heap} (_ : K.In h) (w : World) (dP : Addr) (es : Array DictEntry) (n : Nat) : Prop := PTab K w dP es n
theorem glob_of {h : Heap} {u : Value} {v : V} (X : K.In h) (G : h.Ns mainGlobals mg) (a : PySem.W.nsIn K mainGlobals x = some (some u)) (r : RelV v u) : ∃ u, mg x = some u ∧ RelV v u := ⟨u, PySem.W.mg_of X G a, r⟩
theorem ptab_of {h : Heap} {dP : Addr} {es : Array DictEntry} {n : Nat} {u1 u2 u3 u4 u5 u6 u7 u8 u9 : Value} (X : K.In h) (G : h.Ns mainGlobals mg) (a : PySem.W.nsIn K mainGlobals "PARTS" = some (some (.ref dP))) (D : K.lookup dP = some ⟨.type "dict", none, .dict es n, #[]⟩)
    (kl : PySem.W.KeysLit w.params es.toList) (low : (dP == sysModules) = false) (k1 : PySem.W.nsIn K dP "num" = some (some u1)) (k2 : PySem.W.nsIn K dP "name" = some (some u2)) (k3 : PySem.W.nsIn K dP "add" = some (some u3)) (k4 : PySem.W.nsIn K dP "less" = some (some u4))
    (k5 : PySem.W.nsIn K dP "say" = some (some u5)) (k6 : PySem.W.nsIn K dP "if" = some (some u6)) (k7 : PySem.W.nsIn K dP "let" = some (some u7)) (k8 : PySem.W.nsIn K dP "fun" = some (some u8)) (k9 : PySem.W.nsIn K dP "call" = some (some u9))
    (r1 : RelV (.int 2) u1) (r2 : RelV (.int 2) u2) (r3 : RelV (.int 3) u3) (r4 : RelV (.int 3) u4) (r5 : RelV (.int 2) u5) (r6 : RelV (.int 4) u6) (r7 : RelV (.int 4) u7) (r8 : RelV (.int 5) u8) (r9 : RelV (.int 3) u9) :
    ∃ (dP : Addr) (es : Array DictEntry) (n : Nat), PTab K w dP es n ∧ ∃ u, mg "PARTS" = some u ∧ RelV (.ref dP) u :=
  ⟨dP, es, n, ⟨⟨D, kl, low⟩, fun p => match p with
    | .num _ => ⟨u1, k1, r1⟩ | .name _ => ⟨u2, k2, r2⟩ | .add _ _ => ⟨u3, k3, r3⟩ | .less _ _ => ⟨u4, k4, r4⟩ | .say _ => ⟨u5, k5, r5⟩ | .ite _ _ _ => ⟨u6, k6, r6⟩ | .lt _ _ _ => ⟨u7, k7, r7⟩ | .fn _ _ _ _ => ⟨u8, k8, r8⟩ | .call _ _ => ⟨u9, k9, r9⟩⟩, _, PySem.W.mg_of X G a, rfl⟩
end

theorem FnOk.none {P : Program} {w : World} {K : PySem.W.Frag} {mg : Str → Option Value} {base : Heap} {k : Nat} {f : Addr} {fd : FuncData} {ps : List Str} {sp : Sp} (no : ∀ vs H Q E, ¬ sp vs H Q E) : FnOk P w K mg base C8.CX0 k f fd ps sp :=
  ⟨fun vs H Q E h => absurd h (no vs H Q E), fun A outer s H args us vs Q E _ _ _ _ h => absurd h (no vs H Q E)⟩
theorem no_part {K : PySem.W.Frag} : ∀ vs H Q E, ¬ spPart K 0 vs H Q E := fun vs H Q E h => by
  obtain ⟨bx, il, nm, fn, w, d, names, funs, fv, ws, _, P, hn, _⟩ := h
  have := P.d0
  omega
theorem no_size {K : PySem.W.Frag} : ∀ vs H Q E, ¬ spSize K 0 vs H Q E := fun vs H Q E h => by
  obtain ⟨v, p, _, _, hd, _⟩ := h
  have := dep_pos p
  omega
theorem no_alike {K : PySem.W.Frag} : ∀ vs H Q E, ¬ spAlike K 0 vs H Q E := fun vs H Q E h => by
  obtain ⟨x, y, d, _, _, _, hd, _⟩ := h
  omega
theorem no_look {K : PySem.W.Frag} {C : Addr} : ∀ vs H Q E, ¬ spLook K C 0 vs H Q E := fun vs H Q E h => by
  obtain ⟨p, dx, v, an, af, pt, names, fs, kvs, pl, _, _, _, O, _⟩ := h
  have := O.dn
  have := dep_pos pt
  omega
theorem no_go {K : PySem.W.Frag} {P : Program} {w : World} {C : Addr} : ∀ vs H Q E, ¬ spGo K P w C 0 vs H Q E := fun vs H Q E h => by
  obtain ⟨T, p, dx, nd, md, kd, v, num, ae, ac, af, pt, E', F, fe, ns, vis, ks, _, _, _, _, O, _⟩ := h
  have := O.dp
  have := dpt_pos pt (dlB fe)
  omega
theorem no_enter {K : PySem.W.Frag} {P : Program} {w : World} {C : Addr} : ∀ vs H Q E, ¬ spEnter K P w C 0 vs H Q E := fun vs H Q E h => by
  obtain ⟨T, p, dx, nd, md, kd, tt, kn, ne, ac, vp, e, t, F, vis, ks, _, _, _, _, _, _, _, _, _, _, _, _, hdp, _⟩ := h
  omega
theorem no_lsee {K : PySem.W.Frag} : ∀ vs H Q E, ¬ spLSee K 0 vs H Q E := fun vs H Q E h => by
  obtain ⟨T, td, bt, ae, ac, af, v, num, pt, E', F, fe, ns, R, _, _, _, _, _, O, _⟩ := h
  have := O.dp
  have := dpt_pos pt (dlB fe)
  omega

section
variable {P : Program} {w : World} {K : PySem.W.Frag} {mg : Str → Option Value} {base : Heap} {dP cChk cLkr : Addr} {es : Array DictEntry} {n0 : Nat}
theorem ok_Check___init__ {f : Addr} {fd : FuncData}  (F : Fun K "__init__" "Check.__init__" s_Check___init__ f fd) (T : Txt K w mg dP es n0 cChk cLkr)   : FnOk P w K mg base C8.CX0 (0 + 1) f fd ["self"] (spChkInit cChk) := by
  refine F.ok sc_Check___init__ (fun vs H Q E h => by first | (obtain ⟨_, rfl, _⟩ := h; rfl) | (obtain ⟨_, _, rfl, _⟩ := h; rfl) | (obtain ⟨_, _, _, rfl, _⟩ := h; rfl) | (obtain ⟨_, _, _, _, rfl, _⟩ := h; rfl) | (obtain ⟨_, _, _, _, _, rfl, _⟩ := h; rfl) | (obtain ⟨_, _, _, _, _, _, rfl, _⟩ := h; rfl) | (obtain ⟨_, _, _, _, _, _, _, rfl, _⟩ := h; rfl) | (obtain ⟨_, _, _, _, _, _, _, _, rfl, _⟩ := h; rfl) | (obtain ⟨_, _, _, _, _, _, _, _, _, rfl, _⟩ := h; rfl) | (obtain ⟨_, _, _, _, _, _, _, _, _, _, rfl, _⟩ := h; rfl) | (obtain ⟨_, _, _, _, _, _, _, _, _, _, _, rfl, _⟩ := h; rfl) | (obtain ⟨_, _, _, _, _, _, _, _, _, _, _, _, rfl, _⟩ := h; rfl) | (obtain ⟨_, _, _, _, _, _, _, _, _, _, _, _, _, rfl, _⟩ := h; rfl) | (obtain ⟨_, _, _, _, _, _, _, _, _, _, _, _, _, _, rfl, _⟩ := h; rfl) | (obtain ⟨_, _, _, _, _, _, _, _, _, _, _, _, _, _, _, rfl, _⟩ := h; rfl) | (obtain ⟨_, _, _, _, _, _, _, _, _, _, _, _, _, _, _, _, rfl, _⟩ := h; rfl) | (obtain ⟨_, _, _, _, _, _, _, _, _, _, _, _, _, _, _, _, _, rfl, _⟩ := h; rfl) | (obtain ⟨_, _, _, _, _, _, _, _, _, _, _, _, _, _, _, _, _, _, rfl, _⟩ := h; rfl) | (obtain ⟨_, _, _, _, _, _, _, _, _, _, _, _, _, _, _, _, _, _, _, rfl, _⟩ := h; rfl) | (obtain ⟨_, _, _, _, _, _, _, _, _, _, _, _, _, _, _, _, _, _, _, _, rfl, _⟩ := h; rfl) | (obtain ⟨_, _, _, _, _, _, _, _, _, _, _, _, _, _, _, _, _, _, _, _, _, rfl, _⟩ := h; rfl) | (obtain ⟨_, _, _, _, _, _, _, _, _, _, _, _, _, _, _, _, _, _, _, _, _, _, rfl, _⟩ := h; rfl) | (obtain ⟨_, _, _, _, _, _, _, _, _, _, _, _, _, _, _, _, _, _, _, _, _, _, _, rfl, _⟩ := h; rfl) | (obtain ⟨_, _, _, _, _, _, _, _, _, _, _, _, _, _, _, _, _, _, _, _, _, _, _, _, rfl, _⟩ := h; rfl)) (fun cdv A outer s H vs Q E hr h => ⟨t_chk_init K, ?_, pure_chk_init T.chk vs H Q E h⟩)
  have hu := hu_of hr
  exact (pss_one (ps_fld (pv 0) pe_int rfl))
theorem ok_Looker___init__ {f : Addr} {fd : FuncData}  (F : Fun K "__init__" "Looker.__init__" s_Looker___init__ f fd) (T : Txt K w mg dP es n0 cChk cLkr)   : FnOk P w K mg base C8.CX0 (0 + 1) f fd ["self"] (spLkInit cLkr) := by
  refine F.ok sc_Looker___init__ (fun vs H Q E h => by first | (obtain ⟨_, rfl, _⟩ := h; rfl) | (obtain ⟨_, _, rfl, _⟩ := h; rfl) | (obtain ⟨_, _, _, rfl, _⟩ := h; rfl) | (obtain ⟨_, _, _, _, rfl, _⟩ := h; rfl) | (obtain ⟨_, _, _, _, _, rfl, _⟩ := h; rfl) | (obtain ⟨_, _, _, _, _, _, rfl, _⟩ := h; rfl) | (obtain ⟨_, _, _, _, _, _, _, rfl, _⟩ := h; rfl) | (obtain ⟨_, _, _, _, _, _, _, _, rfl, _⟩ := h; rfl) | (obtain ⟨_, _, _, _, _, _, _, _, _, rfl, _⟩ := h; rfl) | (obtain ⟨_, _, _, _, _, _, _, _, _, _, rfl, _⟩ := h; rfl) | (obtain ⟨_, _, _, _, _, _, _, _, _, _, _, rfl, _⟩ := h; rfl) | (obtain ⟨_, _, _, _, _, _, _, _, _, _, _, _, rfl, _⟩ := h; rfl) | (obtain ⟨_, _, _, _, _, _, _, _, _, _, _, _, _, rfl, _⟩ := h; rfl) | (obtain ⟨_, _, _, _, _, _, _, _, _, _, _, _, _, _, rfl, _⟩ := h; rfl) | (obtain ⟨_, _, _, _, _, _, _, _, _, _, _, _, _, _, _, rfl, _⟩ := h; rfl) | (obtain ⟨_, _, _, _, _, _, _, _, _, _, _, _, _, _, _, _, rfl, _⟩ := h; rfl) | (obtain ⟨_, _, _, _, _, _, _, _, _, _, _, _, _, _, _, _, _, rfl, _⟩ := h; rfl) | (obtain ⟨_, _, _, _, _, _, _, _, _, _, _, _, _, _, _, _, _, _, rfl, _⟩ := h; rfl) | (obtain ⟨_, _, _, _, _, _, _, _, _, _, _, _, _, _, _, _, _, _, _, rfl, _⟩ := h; rfl) | (obtain ⟨_, _, _, _, _, _, _, _, _, _, _, _, _, _, _, _, _, _, _, _, rfl, _⟩ := h; rfl) | (obtain ⟨_, _, _, _, _, _, _, _, _, _, _, _, _, _, _, _, _, _, _, _, _, rfl, _⟩ := h; rfl) | (obtain ⟨_, _, _, _, _, _, _, _, _, _, _, _, _, _, _, _, _, _, _, _, _, _, rfl, _⟩ := h; rfl) | (obtain ⟨_, _, _, _, _, _, _, _, _, _, _, _, _, _, _, _, _, _, _, _, _, _, _, rfl, _⟩ := h; rfl) | (obtain ⟨_, _, _, _, _, _, _, _, _, _, _, _, _, _, _, _, _, _, _, _, _, _, _, _, rfl, _⟩ := h; rfl)) (fun cdv A outer s H vs Q E hr h => ⟨t_lkinit K, ?_, pure_lkinit T.lkr vs H Q E h⟩)
  have hu := hu_of hr
  exact (pss_cons (ps_fld (pv 0) pe_dnewK rfl)
    (pss_cons (ps_fld (pv 0) pe_dnewK rfl)
    (pss_one (ps_fld (pv 0) pe_dnewK rfl))))
theorem ok_law_begun {f : Addr} {fd : FuncData}  (F : Fun K "_law_begun" "_law_begun" s__law_begun f fd) (T : Txt K w mg dP es n0 cChk cLkr)   : FnOk P w K mg base C8.CX0 (0 + 1) f fd ["_law_script"] (spBegun K) := by
  refine F.ok sc__law_begun (fun vs H Q E h => by first | (obtain ⟨_, rfl, _⟩ := h; rfl) | (obtain ⟨_, _, rfl, _⟩ := h; rfl) | (obtain ⟨_, _, _, rfl, _⟩ := h; rfl) | (obtain ⟨_, _, _, _, rfl, _⟩ := h; rfl) | (obtain ⟨_, _, _, _, _, rfl, _⟩ := h; rfl) | (obtain ⟨_, _, _, _, _, _, rfl, _⟩ := h; rfl) | (obtain ⟨_, _, _, _, _, _, _, rfl, _⟩ := h; rfl) | (obtain ⟨_, _, _, _, _, _, _, _, rfl, _⟩ := h; rfl) | (obtain ⟨_, _, _, _, _, _, _, _, _, rfl, _⟩ := h; rfl) | (obtain ⟨_, _, _, _, _, _, _, _, _, _, rfl, _⟩ := h; rfl) | (obtain ⟨_, _, _, _, _, _, _, _, _, _, _, rfl, _⟩ := h; rfl) | (obtain ⟨_, _, _, _, _, _, _, _, _, _, _, _, rfl, _⟩ := h; rfl) | (obtain ⟨_, _, _, _, _, _, _, _, _, _, _, _, _, rfl, _⟩ := h; rfl) | (obtain ⟨_, _, _, _, _, _, _, _, _, _, _, _, _, _, rfl, _⟩ := h; rfl) | (obtain ⟨_, _, _, _, _, _, _, _, _, _, _, _, _, _, _, rfl, _⟩ := h; rfl) | (obtain ⟨_, _, _, _, _, _, _, _, _, _, _, _, _, _, _, _, rfl, _⟩ := h; rfl) | (obtain ⟨_, _, _, _, _, _, _, _, _, _, _, _, _, _, _, _, _, rfl, _⟩ := h; rfl) | (obtain ⟨_, _, _, _, _, _, _, _, _, _, _, _, _, _, _, _, _, _, rfl, _⟩ := h; rfl) | (obtain ⟨_, _, _, _, _, _, _, _, _, _, _, _, _, _, _, _, _, _, _, rfl, _⟩ := h; rfl) | (obtain ⟨_, _, _, _, _, _, _, _, _, _, _, _, _, _, _, _, _, _, _, _, rfl, _⟩ := h; rfl) | (obtain ⟨_, _, _, _, _, _, _, _, _, _, _, _, _, _, _, _, _, _, _, _, _, rfl, _⟩ := h; rfl) | (obtain ⟨_, _, _, _, _, _, _, _, _, _, _, _, _, _, _, _, _, _, _, _, _, _, rfl, _⟩ := h; rfl) | (obtain ⟨_, _, _, _, _, _, _, _, _, _, _, _, _, _, _, _, _, _, _, _, _, _, _, rfl, _⟩ := h; rfl) | (obtain ⟨_, _, _, _, _, _, _, _, _, _, _, _, _, _, _, _, _, _, _, _, _, _, _, _, rfl, _⟩ := h; rfl)) (fun cdv A outer s H vs Q E hr h => ⟨t_begun K, ?_, pure_begun vs H Q E h⟩)
  have hu := hu_of hr
  exact (pss_cons (ps_asg pe_int (pg_name (i := 1) sc__law_begun.nd rfl (Or.inl rfl)))
    (pss_cons (ps_for PassesOwn.never rfl (pi_list (pv 0)) (pg_name (i := 2) sc__law_begun.nd rfl (Or.inl rfl)) (pss_one (ps_asg (pe_op op_mod (pe_op op_add (pe_op op_add (pe_op op_mul (pv 1) pe_int) (pe_op op_mul (pv 2) pe_int)) pe_int) pe_int) (pg_name (i := 1) sc__law_begun.nd rfl (Or.inl rfl)))))
    (pss_one (ps_ret (pe_lst (pa_cons (pe_callTy call_list_of (by rfl) T.b_list (by decide +kernel) (pa_cons (pv 0) pa_nil)) (pa_cons (pe_op op_mul (pv 1) (pe_callTy call_int1 (by rfl) T.b_int (by decide +kernel) (pa_cons (pe_cmpR op_gt (pe_callB call_len_seq (by rfl) T.b_len (by decide +kernel) (pa_cons (pv 0) pa_nil)) pe_int (nomark _)) pa_nil))) pa_nil)))))))
theorem ok_law_take {f : Addr} {fd : FuncData}  (F : Fun K "_law_take" "_law_take" s__law_take f fd) (T : Txt K w mg dP es n0 cChk cLkr)   : FnOk P w K mg base C8.CX0 (0 + 1) f fd ["_law_box", "_law_many"] spTake := by
  refine F.ok sc__law_take (fun vs H Q E h => by first | (obtain ⟨_, rfl, _⟩ := h; rfl) | (obtain ⟨_, _, rfl, _⟩ := h; rfl) | (obtain ⟨_, _, _, rfl, _⟩ := h; rfl) | (obtain ⟨_, _, _, _, rfl, _⟩ := h; rfl) | (obtain ⟨_, _, _, _, _, rfl, _⟩ := h; rfl) | (obtain ⟨_, _, _, _, _, _, rfl, _⟩ := h; rfl) | (obtain ⟨_, _, _, _, _, _, _, rfl, _⟩ := h; rfl) | (obtain ⟨_, _, _, _, _, _, _, _, rfl, _⟩ := h; rfl) | (obtain ⟨_, _, _, _, _, _, _, _, _, rfl, _⟩ := h; rfl) | (obtain ⟨_, _, _, _, _, _, _, _, _, _, rfl, _⟩ := h; rfl) | (obtain ⟨_, _, _, _, _, _, _, _, _, _, _, rfl, _⟩ := h; rfl) | (obtain ⟨_, _, _, _, _, _, _, _, _, _, _, _, rfl, _⟩ := h; rfl) | (obtain ⟨_, _, _, _, _, _, _, _, _, _, _, _, _, rfl, _⟩ := h; rfl) | (obtain ⟨_, _, _, _, _, _, _, _, _, _, _, _, _, _, rfl, _⟩ := h; rfl) | (obtain ⟨_, _, _, _, _, _, _, _, _, _, _, _, _, _, _, rfl, _⟩ := h; rfl) | (obtain ⟨_, _, _, _, _, _, _, _, _, _, _, _, _, _, _, _, rfl, _⟩ := h; rfl) | (obtain ⟨_, _, _, _, _, _, _, _, _, _, _, _, _, _, _, _, _, rfl, _⟩ := h; rfl) | (obtain ⟨_, _, _, _, _, _, _, _, _, _, _, _, _, _, _, _, _, _, rfl, _⟩ := h; rfl) | (obtain ⟨_, _, _, _, _, _, _, _, _, _, _, _, _, _, _, _, _, _, _, rfl, _⟩ := h; rfl) | (obtain ⟨_, _, _, _, _, _, _, _, _, _, _, _, _, _, _, _, _, _, _, _, rfl, _⟩ := h; rfl) | (obtain ⟨_, _, _, _, _, _, _, _, _, _, _, _, _, _, _, _, _, _, _, _, _, rfl, _⟩ := h; rfl) | (obtain ⟨_, _, _, _, _, _, _, _, _, _, _, _, _, _, _, _, _, _, _, _, _, _, rfl, _⟩ := h; rfl) | (obtain ⟨_, _, _, _, _, _, _, _, _, _, _, _, _, _, _, _, _, _, _, _, _, _, _, rfl, _⟩ := h; rfl) | (obtain ⟨_, _, _, _, _, _, _, _, _, _, _, _, _, _, _, _, _, _, _, _, _, _, _, _, rfl, _⟩ := h; rfl)) (fun cdv A outer s H vs Q E hr h => ⟨t_take K, ?_, pure_take vs H Q E h⟩)
  have hu := hu_of hr
  exact (pss_cons (ps_if (pt_cmpR (op_eqD hr.units) (pe_ix ix_list (pv 0) pe_int (fun _ _ => rfl)) (pe_lst pa_nil) (nomark _)) (pss_cons (ps_asg (pe_op op_mod (pe_op op_mul (pe_ix ix_list (pv 0) pe_int (fun _ _ => rfl)) pe_int) pe_int) (pg_sub (pv 0) pe_int set_list))
    (pss_one (ps_ret (pe_op op_mod (pe_op op_fdiv (pe_ix ix_list (pv 0) pe_int (fun _ _ => rfl)) pe_int) (pv 1))))) pss_nil)
    (pss_cons (ps_asg (pe_ix ix_list (pe_ix ix_list (pv 0) pe_int (fun _ _ => rfl)) pe_int (fun _ _ => rfl)) (pg_name (i := 2) sc__law_take.nd rfl (Or.inl rfl)))
    (pss_cons (ps_asg (pe_op op_fdiv (pv 2) (pv 1)) (pg_sub (pe_ix ix_list (pv 0) pe_int (fun _ _ => rfl)) pe_int set_list))
    (pss_cons (ps_if (PW.pt (pw_or (pt_cmpR op_eq (pe_ix ix_list (pe_ix ix_list (pv 0) pe_int (fun _ _ => rfl)) pe_int (fun _ _ => rfl)) pe_int (nomark _)) (pw_or1 (pt_cmpR op_eq (pe_ix ix_list (pe_ix ix_list (pv 0) pe_int (fun _ _ => rfl)) pe_int (fun _ _ => rfl)) (pe_un un_neg pe_int) (nomark _))))) (pss_one (ps_expr (pe_bm PySem.F.plainAttrs_list PySem.F.slot_list_pop PySem.F.type_list_pop mt_popAt (pe_ix ix_list (pv 0) pe_int (fun _ _ => rfl)) (pa_cons pe_int pa_nil)))) pss_nil)
    (pss_one (ps_ret (pe_op op_mod (pv 2) (pv 1))))))))
theorem ok_law_leaf {f : Addr} {fd : FuncData}  (F : Fun K "_law_leaf" "_law_leaf" s__law_leaf f fd) (T : Txt K w mg dP es n0 cChk cLkr)  (c_law_take : C8.Cal P w K mg base (1) "_law_take" spTake []) : FnOk P w K mg base C8.CX0 (1 + 1) f fd ["_law_box", "_law_names"] (spLeaf K) := by
  refine F.ok sc__law_leaf (fun vs H Q E h => by first | (obtain ⟨_, rfl, _⟩ := h; rfl) | (obtain ⟨_, _, rfl, _⟩ := h; rfl) | (obtain ⟨_, _, _, rfl, _⟩ := h; rfl) | (obtain ⟨_, _, _, _, rfl, _⟩ := h; rfl) | (obtain ⟨_, _, _, _, _, rfl, _⟩ := h; rfl) | (obtain ⟨_, _, _, _, _, _, rfl, _⟩ := h; rfl) | (obtain ⟨_, _, _, _, _, _, _, rfl, _⟩ := h; rfl) | (obtain ⟨_, _, _, _, _, _, _, _, rfl, _⟩ := h; rfl) | (obtain ⟨_, _, _, _, _, _, _, _, _, rfl, _⟩ := h; rfl) | (obtain ⟨_, _, _, _, _, _, _, _, _, _, rfl, _⟩ := h; rfl) | (obtain ⟨_, _, _, _, _, _, _, _, _, _, _, rfl, _⟩ := h; rfl) | (obtain ⟨_, _, _, _, _, _, _, _, _, _, _, _, rfl, _⟩ := h; rfl) | (obtain ⟨_, _, _, _, _, _, _, _, _, _, _, _, _, rfl, _⟩ := h; rfl) | (obtain ⟨_, _, _, _, _, _, _, _, _, _, _, _, _, _, rfl, _⟩ := h; rfl) | (obtain ⟨_, _, _, _, _, _, _, _, _, _, _, _, _, _, _, rfl, _⟩ := h; rfl) | (obtain ⟨_, _, _, _, _, _, _, _, _, _, _, _, _, _, _, _, rfl, _⟩ := h; rfl) | (obtain ⟨_, _, _, _, _, _, _, _, _, _, _, _, _, _, _, _, _, rfl, _⟩ := h; rfl) | (obtain ⟨_, _, _, _, _, _, _, _, _, _, _, _, _, _, _, _, _, _, rfl, _⟩ := h; rfl) | (obtain ⟨_, _, _, _, _, _, _, _, _, _, _, _, _, _, _, _, _, _, _, rfl, _⟩ := h; rfl) | (obtain ⟨_, _, _, _, _, _, _, _, _, _, _, _, _, _, _, _, _, _, _, _, rfl, _⟩ := h; rfl) | (obtain ⟨_, _, _, _, _, _, _, _, _, _, _, _, _, _, _, _, _, _, _, _, _, rfl, _⟩ := h; rfl) | (obtain ⟨_, _, _, _, _, _, _, _, _, _, _, _, _, _, _, _, _, _, _, _, _, _, rfl, _⟩ := h; rfl) | (obtain ⟨_, _, _, _, _, _, _, _, _, _, _, _, _, _, _, _, _, _, _, _, _, _, _, rfl, _⟩ := h; rfl) | (obtain ⟨_, _, _, _, _, _, _, _, _, _, _, _, _, _, _, _, _, _, _, _, _, _, _, _, rfl, _⟩ := h; rfl)) (fun cdv A outer s H vs Q E hr h => ⟨t_leaf K, ?_, pure_leaf vs H Q E h⟩)
  have hu := hu_of hr
  exact (pss_cons (ps_if (PW.pt (pw_or (pt_cmpR (op_eqD hr.units) (pv 1) (pe_lst pa_nil) (nomark _)) (pw_or1 (pt_cmpR op_eq (C8.pe_c c_law_take hr (by omega) rfl (pa_cons (pv 0) (pa_cons pe_int pa_nil))) pe_int (nomark _))))) (pss_one (ps_ret (pe_tup (pa_cons pe_str (pa_cons (C8.pe_c c_law_take hr (by omega) rfl (pa_cons (pv 0) (pa_cons (pe_ix ix_list (pe_lst (pa_cons pe_int (pa_cons pe_int pa_nil))) (pe_callTy call_int1 (by rfl) T.b_int (by decide +kernel) (pa_cons (pe_cmpR op_eq (C8.pe_c c_law_take hr (by omega) rfl (pa_cons (pv 0) (pa_cons pe_int pa_nil))) pe_int (nomark _)) pa_nil)) (fun _ _ => rfl)) pa_nil))) pa_nil))))) pss_nil)
    (pss_one (ps_ret (pe_tup (pa_cons pe_str (pa_cons (pe_ix ix_list (pv 1) (pe_op op_sub (pe_op op_sub (pe_callB call_len_seq (by rfl) T.b_len (by decide +kernel) (pa_cons (pv 1) pa_nil)) pe_int) (C8.pe_c c_law_take hr (by omega) rfl (pa_cons (pv 0) (pa_cons (pe_callB call_len_seq (by rfl) T.b_len (by decide +kernel) (pa_cons (pv 1) pa_nil)) pa_nil)))) (fun _ _ => rfl)) pa_nil))))))
theorem ok_law_fun {f : Addr} {fd : FuncData} {n : Nat} (F : Fun K "_law_fun" "_law_fun" s__law_fun f fd) (T : Txt K w mg dP es n0 cChk cLkr)  (c_law_take : C8.Cal P w K mg base (1) "_law_take" spTake []) (c_law_part : C8.Cal P w K mg base (2 * n + 3) "_law_part" (spPart K n) []) (c_law_leaf : C8.Cal P w K mg base (2) "_law_leaf" (spLeaf K) []) : FnOk P w K mg base C8.CX0 ((2 * n + 3) + 1) f fd ["_law_box", "_law_deep", "_law_names", "_law_funs", "_law_words"] (spFun K n) := by
  refine F.ok sc__law_fun (fun vs H Q E h => by first | (obtain ⟨_, rfl, _⟩ := h; rfl) | (obtain ⟨_, _, rfl, _⟩ := h; rfl) | (obtain ⟨_, _, _, rfl, _⟩ := h; rfl) | (obtain ⟨_, _, _, _, rfl, _⟩ := h; rfl) | (obtain ⟨_, _, _, _, _, rfl, _⟩ := h; rfl) | (obtain ⟨_, _, _, _, _, _, rfl, _⟩ := h; rfl) | (obtain ⟨_, _, _, _, _, _, _, rfl, _⟩ := h; rfl) | (obtain ⟨_, _, _, _, _, _, _, _, rfl, _⟩ := h; rfl) | (obtain ⟨_, _, _, _, _, _, _, _, _, rfl, _⟩ := h; rfl) | (obtain ⟨_, _, _, _, _, _, _, _, _, _, rfl, _⟩ := h; rfl) | (obtain ⟨_, _, _, _, _, _, _, _, _, _, _, rfl, _⟩ := h; rfl) | (obtain ⟨_, _, _, _, _, _, _, _, _, _, _, _, rfl, _⟩ := h; rfl) | (obtain ⟨_, _, _, _, _, _, _, _, _, _, _, _, _, rfl, _⟩ := h; rfl) | (obtain ⟨_, _, _, _, _, _, _, _, _, _, _, _, _, _, rfl, _⟩ := h; rfl) | (obtain ⟨_, _, _, _, _, _, _, _, _, _, _, _, _, _, _, rfl, _⟩ := h; rfl) | (obtain ⟨_, _, _, _, _, _, _, _, _, _, _, _, _, _, _, _, rfl, _⟩ := h; rfl) | (obtain ⟨_, _, _, _, _, _, _, _, _, _, _, _, _, _, _, _, _, rfl, _⟩ := h; rfl) | (obtain ⟨_, _, _, _, _, _, _, _, _, _, _, _, _, _, _, _, _, _, rfl, _⟩ := h; rfl) | (obtain ⟨_, _, _, _, _, _, _, _, _, _, _, _, _, _, _, _, _, _, _, rfl, _⟩ := h; rfl) | (obtain ⟨_, _, _, _, _, _, _, _, _, _, _, _, _, _, _, _, _, _, _, _, rfl, _⟩ := h; rfl) | (obtain ⟨_, _, _, _, _, _, _, _, _, _, _, _, _, _, _, _, _, _, _, _, _, rfl, _⟩ := h; rfl) | (obtain ⟨_, _, _, _, _, _, _, _, _, _, _, _, _, _, _, _, _, _, _, _, _, _, rfl, _⟩ := h; rfl) | (obtain ⟨_, _, _, _, _, _, _, _, _, _, _, _, _, _, _, _, _, _, _, _, _, _, _, rfl, _⟩ := h; rfl) | (obtain ⟨_, _, _, _, _, _, _, _, _, _, _, _, _, _, _, _, _, _, _, _, _, _, _, _, rfl, _⟩ := h; rfl)) (fun cdv A outer s H vs Q E hr h => ⟨t_fun K n, ?_, pure_fun vs H Q E h⟩)
  have hu := hu_of hr
  exact (pss_cons (ps_asg (pe_ix ix_list (pv 4) (C8.pe_c c_law_take hr (by omega) rfl (pa_cons (pv 0) (pa_cons pe_int pa_nil))) (fun _ _ => rfl)) (pg_name (i := 5) sc__law_fun.nd rfl (Or.inr rfl)))
    (pss_cons (ps_asg (pe_slice sl_list (pv 4) po_none (po_some (C8.pe_c c_law_take hr (by omega) rfl (pa_cons (pv 0) (pa_cons (pe_callB call_len_seq (by rfl) T.b_len (by decide +kernel) (pa_cons (pv 4) pa_nil)) pa_nil))))) (pg_name (i := 6) sc__law_fun.nd rfl (Or.inl rfl)))
    (C8.pss_cut (ps_if (pt_cmpR op_eq (C8.pe_c c_law_take hr (by omega) rfl (pa_cons (pv 0) (pa_cons pe_int pa_nil))) pe_int (nomark _)) (pss_one (ps_asg (pe_revL (pv 6)) (pg_name (i := 6) sc__law_fun.nd rfl (Or.inl rfl)))) pss_nil) (pss_cons (ps_asg (C8.pe_c c_law_part hr (by omega) rfl (pa_cons (pv 0) (pa_cons (pe_op op_sub (pv 1) pe_int) (pa_cons (pe_op op_cat (pv 2) (pv 6)) (pa_cons (pv 3) (pa_cons (pv 4) pa_nil)))))) (pg_name (i := 7) sc__law_fun.nd rfl (Or.inl rfl)))
    (pss_cons (ps_asg (pe_op op_cat (pe_lc (own := [("_law_fun_here", 12)]) (g := (gName 12)) (tt := (tTest (tOp rNe (tOp (rIxT K) (tVar 12) (tC (.int 0))) (tVar 5)))) (te := (tVar 12)) rfl sc__law_fun.nd (pi_list (pv 3)) (blkOk_by (N := ["_law_box", "_law_deep", "_law_names", "_law_funs", "_law_words", "_law_name", "_law_params", "_law_body", "_law_known", "_law_rest", "_law_word", "_law_call", "_law_fun_here", "_law_param"]) (sc := defScope s__law_fun) (by decide +kernel)) (fun _ _ _ _ _ => (pg_name (i := 12) sc__law_fun.nd rfl (Or.inl rfl))) (fun _ _ _ _ _ => (pts_one (pt_cmpR op_ne (pe_ix ix_tup (pv 12) pe_int (fun _ _ => rfl)) (pv 5) (nomark _)))) (fun _ _ _ _ _ => (pv 12))) (pe_lst (pa_cons (pe_tup (pa_cons (pv 5) (pa_cons (pe_callB call_len_seq (by rfl) T.b_len (by decide +kernel) (pa_cons (pv 6) pa_nil)) pa_nil))) pa_nil))) (pg_name (i := 8) sc__law_fun.nd rfl (Or.inl rfl)))
    (pss_cons (ps_asg (C8.pe_c c_law_part hr (by omega) rfl (pa_cons (pv 0) (pa_cons (pe_op op_sub (pv 1) pe_int) (pa_cons (pv 2) (pa_cons (pv 8) (pa_cons (pv 4) pa_nil)))))) (pg_name (i := 9) sc__law_fun.nd rfl (Or.inl rfl)))
    (pss_cons (ps_if (pt_cmpR op_gt (C8.pe_c c_law_take hr (by omega) rfl (pa_cons (pv 0) (pa_cons pe_int pa_nil))) pe_int (nomark _)) (pss_cons (ps_asg (pe_ix ix_list (pv 4) (C8.pe_c c_law_take hr (by omega) rfl (pa_cons (pv 0) (pa_cons (pe_callB call_len_seq (by rfl) T.b_len (by decide +kernel) (pa_cons (pv 4) pa_nil)) pa_nil))) (fun _ _ => rfl)) (pg_name (i := 10) sc__law_fun.nd rfl (Or.inl rfl)))
    (pss_cons (ps_asg (pe_tup (pa_cons pe_str (pa_cons (pv 5) (pa_cons (pe_callTy call_tuple_of (by rfl) T.b_tuple (by decide +kernel) (pa_cons (pe_lc (own := [("_law_param", 13)]) (g := (gName 13)) (tt := tYes) (te := (tCall (spLeaf K) [] C8.E0 (tCons (tVar 0) (tCons (tVar 2) tNil)))) rfl sc__law_fun.nd (pi_list (pv 6)) (blkOk_by (N := ["_law_box", "_law_deep", "_law_names", "_law_funs", "_law_words", "_law_name", "_law_params", "_law_body", "_law_known", "_law_rest", "_law_word", "_law_call", "_law_fun_here", "_law_param"]) (sc := defScope s__law_fun) (by decide +kernel)) (fun _ _ _ _ _ => (pg_name (i := 13) sc__law_fun.nd rfl (Or.inl rfl))) (fun _ _ _ _ _ => pts_nil) (fun _ _ _ _ _ => (C8.pe_c c_law_leaf hr (by omega) rfl (pa_cons (pv 0) (pa_cons (pv 2) pa_nil))))) pa_nil)) pa_nil)))) (pg_name (i := 11) sc__law_fun.nd rfl (Or.inl rfl)))
    (pss_one (ps_asg (pe_tup (pa_cons pe_str (pa_cons (pv 9) (pa_cons (pe_tup (pa_cons pe_str (pa_cons (pv 10) (pa_cons (C8.pe_c c_law_leaf hr (by omega) rfl (pa_cons (pv 0) (pa_cons (pv 2) pa_nil))) (pa_cons (pv 11) pa_nil))))) pa_nil)))) (pg_name (i := 9) sc__law_fun.nd rfl (Or.inl rfl)))))) pss_nil)
    (pss_one (ps_ret (pe_tup (pa_cons pe_str (pa_cons (pv 5) (pa_cons (pe_callTy call_tuple_of (by rfl) T.b_tuple (by decide +kernel) (pa_cons (pv 6) pa_nil)) (pa_cons (pv 7) (pa_cons (pv 9) pa_nil)))))))))))))))
theorem ok_law_part {f : Addr} {fd : FuncData} {n : Nat} (F : Fun K "_law_part" "_law_part" s__law_part f fd) (T : Txt K w mg dP es n0 cChk cLkr)  (c_law_take : C8.Cal P w K mg base (1) "_law_take" spTake []) (c_law_part : C8.Cal P w K mg base (2 * n + 3) "_law_part" (spPart K n) []) (c_law_leaf : C8.Cal P w K mg base (2) "_law_leaf" (spLeaf K) []) (c_law_fun : C8.Cal P w K mg base (2 * n + 4) "_law_fun" (spFun K n) []) : FnOk P w K mg base C8.CX0 ((2 * n + 4) + 1) f fd ["_law_box", "_law_deep", "_law_names", "_law_funs", "_law_words"] (spPart K (n + 1)) := by
  refine F.ok sc__law_part (fun vs H Q E h => by first | (obtain ⟨_, rfl, _⟩ := h; rfl) | (obtain ⟨_, _, rfl, _⟩ := h; rfl) | (obtain ⟨_, _, _, rfl, _⟩ := h; rfl) | (obtain ⟨_, _, _, _, rfl, _⟩ := h; rfl) | (obtain ⟨_, _, _, _, _, rfl, _⟩ := h; rfl) | (obtain ⟨_, _, _, _, _, _, rfl, _⟩ := h; rfl) | (obtain ⟨_, _, _, _, _, _, _, rfl, _⟩ := h; rfl) | (obtain ⟨_, _, _, _, _, _, _, _, rfl, _⟩ := h; rfl) | (obtain ⟨_, _, _, _, _, _, _, _, _, rfl, _⟩ := h; rfl) | (obtain ⟨_, _, _, _, _, _, _, _, _, _, rfl, _⟩ := h; rfl) | (obtain ⟨_, _, _, _, _, _, _, _, _, _, _, rfl, _⟩ := h; rfl) | (obtain ⟨_, _, _, _, _, _, _, _, _, _, _, _, rfl, _⟩ := h; rfl) | (obtain ⟨_, _, _, _, _, _, _, _, _, _, _, _, _, rfl, _⟩ := h; rfl) | (obtain ⟨_, _, _, _, _, _, _, _, _, _, _, _, _, _, rfl, _⟩ := h; rfl) | (obtain ⟨_, _, _, _, _, _, _, _, _, _, _, _, _, _, _, rfl, _⟩ := h; rfl) | (obtain ⟨_, _, _, _, _, _, _, _, _, _, _, _, _, _, _, _, rfl, _⟩ := h; rfl) | (obtain ⟨_, _, _, _, _, _, _, _, _, _, _, _, _, _, _, _, _, rfl, _⟩ := h; rfl) | (obtain ⟨_, _, _, _, _, _, _, _, _, _, _, _, _, _, _, _, _, _, rfl, _⟩ := h; rfl) | (obtain ⟨_, _, _, _, _, _, _, _, _, _, _, _, _, _, _, _, _, _, _, rfl, _⟩ := h; rfl) | (obtain ⟨_, _, _, _, _, _, _, _, _, _, _, _, _, _, _, _, _, _, _, _, rfl, _⟩ := h; rfl) | (obtain ⟨_, _, _, _, _, _, _, _, _, _, _, _, _, _, _, _, _, _, _, _, _, rfl, _⟩ := h; rfl) | (obtain ⟨_, _, _, _, _, _, _, _, _, _, _, _, _, _, _, _, _, _, _, _, _, _, rfl, _⟩ := h; rfl) | (obtain ⟨_, _, _, _, _, _, _, _, _, _, _, _, _, _, _, _, _, _, _, _, _, _, _, rfl, _⟩ := h; rfl) | (obtain ⟨_, _, _, _, _, _, _, _, _, _, _, _, _, _, _, _, _, _, _, _, _, _, _, _, rfl, _⟩ := h; rfl)) (fun cdv A outer s H vs Q E hr h => ⟨t_part K n, ?_, pure_part vs H Q E h⟩)
  have hu := hu_of hr
  exact (pss_cons (ps_asg (C8.pe_c c_law_take hr (by omega) rfl (pa_cons (pv 0) (pa_cons pe_int pa_nil))) (pg_name (i := 5) sc__law_part.nd rfl (Or.inl rfl)))
    (pss_cons (ps_if (PW.pt (pw_or (pt_cmpR op_le (pv 1) pe_int (nomark _)) (pw_or1 (pt_cmpR op_eq (pv 5) pe_int (nomark _))))) (pss_one (ps_ret (C8.pe_c c_law_leaf hr (by omega) rfl (pa_cons (pv 0) (pa_cons (pv 2) pa_nil))))) pss_nil)
    (pss_cons (ps_if (pt_cmpR op_lt (pv 5) pe_int (nomark _)) (pss_one (ps_ret (C8.pe_c c_law_fun hr (by omega) rfl (pa_cons (pv 0) (pa_cons (pv 1) (pa_cons (pv 2) (pa_cons (pv 3) (pa_cons (pv 4) pa_nil)))))))) pss_nil)
    (pss_cons (ps_if (pt_cmpR op_lt (pv 5) pe_int (nomark _)) (pss_cons (ps_asg (pe_ix ix_list (pv 4) (C8.pe_c c_law_take hr (by omega) rfl (pa_cons (pv 0) (pa_cons (pe_callB call_len_seq (by rfl) T.b_len (by decide +kernel) (pa_cons (pv 4) pa_nil)) pa_nil))) (fun _ _ => rfl)) (pg_name (i := 6) sc__law_part.nd rfl (Or.inl rfl)))
    (pss_cons (ps_asg (C8.pe_c c_law_part hr (by omega) rfl (pa_cons (pv 0) (pa_cons (pe_op op_sub (pv 1) pe_int) (pa_cons (pv 2) (pa_cons (pv 3) (pa_cons (pv 4) pa_nil)))))) (pg_name (i := 7) sc__law_part.nd rfl (Or.inl rfl)))
    (pss_one (ps_ret (pe_tup (pa_cons pe_str (pa_cons (pv 6) (pa_cons (pv 7) (pa_cons (C8.pe_c c_law_part hr (by omega) rfl (pa_cons (pv 0) (pa_cons (pe_op op_sub (pv 1) pe_int) (pa_cons (pe_op op_cat (pv 2) (pe_lst (pa_cons (pv 6) pa_nil))) (pa_cons (pv 3) (pa_cons (pv 4) pa_nil)))))) pa_nil))))))))) pss_nil)
    (pss_cons (ps_if (PW.pt (pw_and (pt_cmpR op_lt (pv 5) pe_int (nomark _)) (pw_and1 (pt_cmpR (op_neD hr.units) (pv 3) (pe_lst pa_nil) (nomark _))))) (pss_cons (ps_asg (pe_ix ix_list (pv 3) (pe_op op_sub (pe_op op_sub (pe_callB call_len_seq (by rfl) T.b_len (by decide +kernel) (pa_cons (pv 3) pa_nil)) pe_int) (C8.pe_c c_law_take hr (by omega) rfl (pa_cons (pv 0) (pa_cons (pe_callB call_len_seq (by rfl) T.b_len (by decide +kernel) (pa_cons (pv 3) pa_nil)) pa_nil)))) (fun _ _ => rfl)) (pg_tup (by rfl) (pgs_cons (pg_name (i := 8) sc__law_part.nd rfl (Or.inl rfl)) (pgs_cons (pg_name (i := 9) sc__law_part.nd rfl (Or.inl rfl)) pgs_nil))))
    (pss_one (ps_ret (pe_tup (pa_cons pe_str (pa_cons (pv 8) (pa_cons (pe_callTy call_tuple_of (by rfl) T.b_tuple (by decide +kernel) (pa_cons (pe_lc (own := [("_law_k", 11)]) (g := (gName 11)) (tt := tYes) (te := (tCall (spPart K n) [] C8.E0 (tCons (tVar 0) (tCons (tOp oSub (tVar 1) (tC (.int 2))) (tCons (tVar 2) (tCons (tVar 3) (tCons (tVar 4) tNil))))))) rfl sc__law_part.nd (pi_range1 rfl T.b_range (pa_cons (pv 9) pa_nil)) (blkOk_by (N := ["_law_box", "_law_deep", "_law_names", "_law_funs", "_law_words", "_law_way", "_law_word", "_law_first", "_law_name", "_law_many", "_law_some", "_law_k"]) (sc := defScope s__law_part) (by decide +kernel)) (fun _ _ _ _ _ => (pg_name (i := 11) sc__law_part.nd rfl (Or.inl rfl))) (fun _ _ _ _ _ => pts_nil) (fun _ _ _ _ _ => (C8.pe_c c_law_part hr (by omega) rfl (pa_cons (pv 0) (pa_cons (pe_op op_sub (pv 1) pe_int) (pa_cons (pv 2) (pa_cons (pv 3) (pa_cons (pv 4) pa_nil)))))))) pa_nil)) pa_nil))))))) pss_nil)
    (pss_cons (ps_if (pt_cmpR op_eq (pv 5) pe_int (nomark _)) (pss_one (ps_ret (pe_tup (pa_cons pe_str (pa_cons (C8.pe_c c_law_part hr (by omega) rfl (pa_cons (pv 0) (pa_cons (pe_op op_sub (pv 1) pe_int) (pa_cons (pv 2) (pa_cons (pv 3) (pa_cons (pv 4) pa_nil)))))) pa_nil))))) pss_nil)
    (pss_cons (ps_setLc (i := 10) (own := [("_law_k", 11)]) (g := (gName 11)) (tt := tYes) (te := (tCall (spPart K n) [] C8.E0 (tCons (tVar 0) (tCons (tOp oSub (tVar 1) (tC (.int 2))) (tCons (tVar 2) (tCons (tVar 3) (tCons (tVar 4) tNil))))))) rfl sc__law_part.nd rfl rfl (sw_true rfl rfl rfl (by decide +kernel)) (pi_range1 rfl T.b_range (pa_cons pe_int pa_nil)) (blkOk_by (N := ["_law_box", "_law_deep", "_law_names", "_law_funs", "_law_words", "_law_way", "_law_word", "_law_first", "_law_name", "_law_many", "_law_some", "_law_k"]) (sc := defScope s__law_part) (by decide +kernel)) (fun _ _ _ _ _ => (pg_name (i := 11) sc__law_part.nd rfl (Or.inl rfl))) (fun _ _ _ _ _ => pts_nil) (fun _ _ _ _ _ => (C8.pe_c c_law_part hr (by omega) rfl (pa_cons (pv 0) (pa_cons (pe_op op_sub (pv 1) pe_int) (pa_cons (pv 2) (pa_cons (pv 3) (pa_cons (pv 4) pa_nil))))))))
    (pss_cons (ps_if (pt_cmpR op_eq (C8.pe_c c_law_take hr (by omega) rfl (pa_cons (pv 0) (pa_cons pe_int pa_nil))) pe_int (nomark _)) (pss_one (ps_ret (pe_tup (pa_cons pe_str (pa_cons (pe_ix ix_list (pv 10) pe_int (fun _ _ => rfl)) (pa_cons (pe_ix ix_list (pv 10) pe_int (fun _ _ => rfl)) (pa_cons (C8.pe_c c_law_leaf hr (by omega) rfl (pa_cons (pv 0) (pa_cons (pv 2) pa_nil))) pa_nil))))))) pss_nil)
    (pss_one (ps_ret (pe_tup (pa_cons (pe_ix ix_list (pe_lst (pa_cons pe_str (pa_cons pe_str pa_nil))) (C8.pe_c c_law_take hr (by omega) rfl (pa_cons (pv 0) (pa_cons pe_int pa_nil))) (fun _ _ => rfl)) (pa_cons (pe_ix ix_list (pv 10) pe_int (fun _ _ => rfl)) (pa_cons (pe_ix ix_list (pv 10) pe_int (fun _ _ => rfl)) pa_nil))))))))))))))
theorem ok_law_inner {f : Addr} {fd : FuncData}  (F : Fun K "_law_inner" "_law_inner" s__law_inner f fd) (T : Txt K w mg dP es n0 cChk cLkr)   : FnOk P w K mg base C8.CX0 (0 + 1) f fd ["_law_part_here"] (spInner K) := by
  refine F.ok sc__law_inner (fun vs H Q E h => by first | (obtain ⟨_, rfl, _⟩ := h; rfl) | (obtain ⟨_, _, rfl, _⟩ := h; rfl) | (obtain ⟨_, _, _, rfl, _⟩ := h; rfl) | (obtain ⟨_, _, _, _, rfl, _⟩ := h; rfl) | (obtain ⟨_, _, _, _, _, rfl, _⟩ := h; rfl) | (obtain ⟨_, _, _, _, _, _, rfl, _⟩ := h; rfl) | (obtain ⟨_, _, _, _, _, _, _, rfl, _⟩ := h; rfl) | (obtain ⟨_, _, _, _, _, _, _, _, rfl, _⟩ := h; rfl) | (obtain ⟨_, _, _, _, _, _, _, _, _, rfl, _⟩ := h; rfl) | (obtain ⟨_, _, _, _, _, _, _, _, _, _, rfl, _⟩ := h; rfl) | (obtain ⟨_, _, _, _, _, _, _, _, _, _, _, rfl, _⟩ := h; rfl) | (obtain ⟨_, _, _, _, _, _, _, _, _, _, _, _, rfl, _⟩ := h; rfl) | (obtain ⟨_, _, _, _, _, _, _, _, _, _, _, _, _, rfl, _⟩ := h; rfl) | (obtain ⟨_, _, _, _, _, _, _, _, _, _, _, _, _, _, rfl, _⟩ := h; rfl) | (obtain ⟨_, _, _, _, _, _, _, _, _, _, _, _, _, _, _, rfl, _⟩ := h; rfl) | (obtain ⟨_, _, _, _, _, _, _, _, _, _, _, _, _, _, _, _, rfl, _⟩ := h; rfl) | (obtain ⟨_, _, _, _, _, _, _, _, _, _, _, _, _, _, _, _, _, rfl, _⟩ := h; rfl) | (obtain ⟨_, _, _, _, _, _, _, _, _, _, _, _, _, _, _, _, _, _, rfl, _⟩ := h; rfl) | (obtain ⟨_, _, _, _, _, _, _, _, _, _, _, _, _, _, _, _, _, _, _, rfl, _⟩ := h; rfl) | (obtain ⟨_, _, _, _, _, _, _, _, _, _, _, _, _, _, _, _, _, _, _, _, rfl, _⟩ := h; rfl) | (obtain ⟨_, _, _, _, _, _, _, _, _, _, _, _, _, _, _, _, _, _, _, _, _, rfl, _⟩ := h; rfl) | (obtain ⟨_, _, _, _, _, _, _, _, _, _, _, _, _, _, _, _, _, _, _, _, _, _, rfl, _⟩ := h; rfl) | (obtain ⟨_, _, _, _, _, _, _, _, _, _, _, _, _, _, _, _, _, _, _, _, _, _, _, rfl, _⟩ := h; rfl) | (obtain ⟨_, _, _, _, _, _, _, _, _, _, _, _, _, _, _, _, _, _, _, _, _, _, _, _, rfl, _⟩ := h; rfl)) (fun cdv A outer s H vs Q E hr h => ⟨t_linner K, ?_, pure_linner vs H Q E h⟩)
  have hu := hu_of hr
  exact (pss_cons (ps_asg (pe_ix ix_tup (pv 0) pe_int (fun _ _ => rfl)) (pg_name (i := 1) sc__law_inner.nd rfl (Or.inl rfl)))
    (pss_cons (ps_if (pt_cmpR op_in_seq (pv 1) (pe_tup (pa_cons pe_str (pa_cons pe_str (pa_cons pe_str pa_nil)))) (by rfl)) (pss_one (ps_ret (pe_callTy call_list_of (by rfl) T.b_list (by decide +kernel) (pa_cons (pe_slice sl_tup (pv 0) (po_some pe_int) po_none) pa_nil)))) pss_nil)
    (pss_cons (ps_if (pt_cmpR op_in_seq (pv 1) (pe_tup (pa_cons pe_str (pa_cons pe_str pa_nil))) (by rfl)) (pss_one (ps_ret (pe_callTy call_list_of (by rfl) T.b_list (by decide +kernel) (pa_cons (pe_slice sl_tup (pv 0) (po_some (pe_ix ix_list (pe_lst (pa_cons pe_int (pa_cons pe_int pa_nil))) (pe_callTy call_int1 (by rfl) T.b_int (by decide +kernel) (pa_cons (pe_cmpR op_eq (pv 1) pe_str (nomark _)) pa_nil)) (fun _ _ => rfl))) po_none) pa_nil)))) pss_nil)
    (pss_cons (ps_if (pt_cmpR op_eq (pv 1) pe_str (nomark _)) (pss_one (ps_ret (pe_callTy call_list_of (by rfl) T.b_list (by decide +kernel) (pa_cons (pe_ix ix_tup (pv 0) pe_int (fun _ _ => rfl)) pa_nil)))) pss_nil)
    (pss_one (ps_ret (pe_op op_rep (pe_lst (pa_cons (pe_ix ix_tup (pv 0) pe_int (fun _ _ => rfl)) pa_nil)) (pe_callTy call_int1 (by rfl) T.b_int (by decide +kernel) (pa_cons (pe_cmpR op_eq (pv 1) pe_str (nomark _)) pa_nil)))))))))
theorem ok_law_size {f : Addr} {fd : FuncData} {n : Nat} (F : Fun K "_law_size" "_law_size" s__law_size f fd) (T : Txt K w mg dP es n0 cChk cLkr)  (c_law_size : C8.Cal P w K mg base (n + 1) "_law_size" (spSize K n) []) (c_law_inner : C8.Cal P w K mg base (1) "_law_inner" (spInner K) []) : FnOk P w K mg base C8.CX0 ((n + 1) + 1) f fd ["_law_part_here"] (spSize K (n + 1)) := by
  refine F.ok sc__law_size (fun vs H Q E h => by first | (obtain ⟨_, rfl, _⟩ := h; rfl) | (obtain ⟨_, _, rfl, _⟩ := h; rfl) | (obtain ⟨_, _, _, rfl, _⟩ := h; rfl) | (obtain ⟨_, _, _, _, rfl, _⟩ := h; rfl) | (obtain ⟨_, _, _, _, _, rfl, _⟩ := h; rfl) | (obtain ⟨_, _, _, _, _, _, rfl, _⟩ := h; rfl) | (obtain ⟨_, _, _, _, _, _, _, rfl, _⟩ := h; rfl) | (obtain ⟨_, _, _, _, _, _, _, _, rfl, _⟩ := h; rfl) | (obtain ⟨_, _, _, _, _, _, _, _, _, rfl, _⟩ := h; rfl) | (obtain ⟨_, _, _, _, _, _, _, _, _, _, rfl, _⟩ := h; rfl) | (obtain ⟨_, _, _, _, _, _, _, _, _, _, _, rfl, _⟩ := h; rfl) | (obtain ⟨_, _, _, _, _, _, _, _, _, _, _, _, rfl, _⟩ := h; rfl) | (obtain ⟨_, _, _, _, _, _, _, _, _, _, _, _, _, rfl, _⟩ := h; rfl) | (obtain ⟨_, _, _, _, _, _, _, _, _, _, _, _, _, _, rfl, _⟩ := h; rfl) | (obtain ⟨_, _, _, _, _, _, _, _, _, _, _, _, _, _, _, rfl, _⟩ := h; rfl) | (obtain ⟨_, _, _, _, _, _, _, _, _, _, _, _, _, _, _, _, rfl, _⟩ := h; rfl) | (obtain ⟨_, _, _, _, _, _, _, _, _, _, _, _, _, _, _, _, _, rfl, _⟩ := h; rfl) | (obtain ⟨_, _, _, _, _, _, _, _, _, _, _, _, _, _, _, _, _, _, rfl, _⟩ := h; rfl) | (obtain ⟨_, _, _, _, _, _, _, _, _, _, _, _, _, _, _, _, _, _, _, rfl, _⟩ := h; rfl) | (obtain ⟨_, _, _, _, _, _, _, _, _, _, _, _, _, _, _, _, _, _, _, _, rfl, _⟩ := h; rfl) | (obtain ⟨_, _, _, _, _, _, _, _, _, _, _, _, _, _, _, _, _, _, _, _, _, rfl, _⟩ := h; rfl) | (obtain ⟨_, _, _, _, _, _, _, _, _, _, _, _, _, _, _, _, _, _, _, _, _, _, rfl, _⟩ := h; rfl) | (obtain ⟨_, _, _, _, _, _, _, _, _, _, _, _, _, _, _, _, _, _, _, _, _, _, _, rfl, _⟩ := h; rfl) | (obtain ⟨_, _, _, _, _, _, _, _, _, _, _, _, _, _, _, _, _, _, _, _, _, _, _, _, rfl, _⟩ := h; rfl)) (fun cdv A outer s H vs Q E hr h => ⟨t_size K n, ?_, pure_size vs H Q E h⟩)
  have hu := hu_of hr
  exact (pss_one (ps_ret (pe_op op_add pe_int (pe_callB (cr_sum rfl) (by rfl) T.b_sum (by decide +kernel) (pa_cons (pe_lc (own := [("_law_one", 1)]) (g := (gName 1)) (tt := tYes) (te := (tCall (spSize K n) [] C8.E0 (tCons (tVar 1) tNil))) rfl sc__law_size.nd (pi_list (C8.pe_c c_law_inner hr (by omega) rfl (pa_cons (pv 0) pa_nil))) (blkOk_by (N := ["_law_part_here", "_law_one"]) (sc := defScope s__law_size) (by decide +kernel)) (fun _ _ _ _ _ => (pg_name (i := 1) sc__law_size.nd rfl (Or.inl rfl))) (fun _ _ _ _ _ => pts_nil) (fun _ _ _ _ _ => (C8.pe_c c_law_size hr (by omega) rfl (pa_cons (pv 1) pa_nil)))) pa_nil)))))
theorem ok_law_program {f : Addr} {fd : FuncData}  (F : Fun K "_law_program" "_law_program" s__law_program f fd) (T : Txt K w mg dP es n0 cChk cLkr)  (c_law_take : C8.Cal P w K mg base (1) "_law_take" spTake []) (c_law_part : C8.Cal P w K mg base (17) "_law_part" (spPart K 7) []) (c_law_size : C8.Cal P w K mg base (21) "_law_size" (spSize K 20) []) : FnOk P w K mg base C8.CX0 (23 + 1) f fd ["_law_box", "_law_deep"] (spProgram K) := by
  refine F.ok sc__law_program (fun vs H Q E h => by first | (obtain ⟨_, rfl, _⟩ := h; rfl) | (obtain ⟨_, _, rfl, _⟩ := h; rfl) | (obtain ⟨_, _, _, rfl, _⟩ := h; rfl) | (obtain ⟨_, _, _, _, rfl, _⟩ := h; rfl) | (obtain ⟨_, _, _, _, _, rfl, _⟩ := h; rfl) | (obtain ⟨_, _, _, _, _, _, rfl, _⟩ := h; rfl) | (obtain ⟨_, _, _, _, _, _, _, rfl, _⟩ := h; rfl) | (obtain ⟨_, _, _, _, _, _, _, _, rfl, _⟩ := h; rfl) | (obtain ⟨_, _, _, _, _, _, _, _, _, rfl, _⟩ := h; rfl) | (obtain ⟨_, _, _, _, _, _, _, _, _, _, rfl, _⟩ := h; rfl) | (obtain ⟨_, _, _, _, _, _, _, _, _, _, _, rfl, _⟩ := h; rfl) | (obtain ⟨_, _, _, _, _, _, _, _, _, _, _, _, rfl, _⟩ := h; rfl) | (obtain ⟨_, _, _, _, _, _, _, _, _, _, _, _, _, rfl, _⟩ := h; rfl) | (obtain ⟨_, _, _, _, _, _, _, _, _, _, _, _, _, _, rfl, _⟩ := h; rfl) | (obtain ⟨_, _, _, _, _, _, _, _, _, _, _, _, _, _, _, rfl, _⟩ := h; rfl) | (obtain ⟨_, _, _, _, _, _, _, _, _, _, _, _, _, _, _, _, rfl, _⟩ := h; rfl) | (obtain ⟨_, _, _, _, _, _, _, _, _, _, _, _, _, _, _, _, _, rfl, _⟩ := h; rfl) | (obtain ⟨_, _, _, _, _, _, _, _, _, _, _, _, _, _, _, _, _, _, rfl, _⟩ := h; rfl) | (obtain ⟨_, _, _, _, _, _, _, _, _, _, _, _, _, _, _, _, _, _, _, rfl, _⟩ := h; rfl) | (obtain ⟨_, _, _, _, _, _, _, _, _, _, _, _, _, _, _, _, _, _, _, _, rfl, _⟩ := h; rfl) | (obtain ⟨_, _, _, _, _, _, _, _, _, _, _, _, _, _, _, _, _, _, _, _, _, rfl, _⟩ := h; rfl) | (obtain ⟨_, _, _, _, _, _, _, _, _, _, _, _, _, _, _, _, _, _, _, _, _, _, rfl, _⟩ := h; rfl) | (obtain ⟨_, _, _, _, _, _, _, _, _, _, _, _, _, _, _, _, _, _, _, _, _, _, _, rfl, _⟩ := h; rfl) | (obtain ⟨_, _, _, _, _, _, _, _, _, _, _, _, _, _, _, _, _, _, _, _, _, _, _, _, rfl, _⟩ := h; rfl)) (fun cdv A outer s H vs Q E hr h => ⟨t_program K, ?_, pure_program vs H Q E h⟩)
  have hu := hu_of hr
  exact (pss_cons (ps_asg (pe_lst (pa_cons (pe_lst (pa_cons pe_str (pa_cons pe_str (pa_cons pe_str pa_nil)))) (pa_cons (pe_lst (pa_cons pe_str (pa_cons pe_str (pa_cons pe_str pa_nil)))) (pa_cons (pe_lst (pa_cons pe_str (pa_cons pe_str (pa_cons pe_str pa_nil)))) (pa_cons (pe_lst (pa_cons pe_str (pa_cons pe_str (pa_cons pe_str (pa_cons pe_str (pa_cons pe_str pa_nil)))))) pa_nil))))) (pg_name (i := 2) sc__law_program.nd rfl (Or.inl rfl)))
    (pss_cons (ps_asg (pe_ix ix_list (pv 2) (C8.pe_c c_law_take hr (by omega) rfl (pa_cons (pv 0) (pa_cons pe_int pa_nil))) (fun _ _ => rfl)) (pg_name (i := 3) sc__law_program.nd rfl (Or.inl rfl)))
    (pss_cons (ps_asg (pe_slice sl_list (pv 3) po_none (po_some (C8.pe_c c_law_take hr (by omega) rfl (pa_cons (pv 0) (pa_cons pe_int pa_nil))))) (pg_name (i := 4) sc__law_program.nd rfl (Or.inl rfl)))
    (pss_cons (ps_asg (C8.pe_c c_law_part hr (by omega) rfl (pa_cons (pv 0) (pa_cons (pv 1) (pa_cons (pv 4) (pa_cons (pe_lst pa_nil) (pa_cons (pv 3) pa_nil)))))) (pg_name (i := 5) sc__law_program.nd rfl (Or.inl rfl)))
    (pss_cons (ps_if (pt_cmpR op_eq (C8.pe_c c_law_take hr (by omega) rfl (pa_cons (pv 0) (pa_cons pe_int pa_nil))) pe_int (nomark _)) (pss_one (ps_asg (pe_tup (pa_cons pe_str (pa_cons (pv 5) (pa_cons (C8.pe_c c_law_part hr (by omega) rfl (pa_cons (pv 0) (pa_cons (pv 1) (pa_cons (pv 4) (pa_cons (pe_lst pa_nil) (pa_cons (pv 3) pa_nil)))))) pa_nil)))) (pg_name (i := 5) sc__law_program.nd rfl (Or.inl rfl)))) pss_nil)
    (pss_one (ps_ret (pe_tup (pa_cons (pe_callTy call_tuple_of (by rfl) T.b_tuple (by decide +kernel) (pa_cons (pv 4) pa_nil)) (pa_cons (pe_ifExp (pt_cmpR op_lt (C8.pe_c c_law_size hr (by omega) rfl (pa_cons (pv 5) pa_nil)) pe_int (nomark _)) (pv 5) (pe_tup (pa_cons pe_str (pa_cons (pe_tup (pa_cons pe_str (pa_cons pe_int pa_nil))) pa_nil)))) pa_nil))))))))))
theorem ok_law_alike {f : Addr} {fd : FuncData} {n : Nat} (F : Fun K "_law_alike" "_law_alike" s__law_alike f fd) (T : Txt K w mg dP es n0 cChk cLkr)  (c_law_alike : C8.Cal P w K mg base (n) "_law_alike" (spAlike K n) []) : FnOk P w K mg base C8.CX0 (n + 1) f fd ["_law_found", "_law_due"] (spAlike K (n + 1)) := by
  refine F.ok sc__law_alike (fun vs H Q E h => by first | (obtain ⟨_, rfl, _⟩ := h; rfl) | (obtain ⟨_, _, rfl, _⟩ := h; rfl) | (obtain ⟨_, _, _, rfl, _⟩ := h; rfl) | (obtain ⟨_, _, _, _, rfl, _⟩ := h; rfl) | (obtain ⟨_, _, _, _, _, rfl, _⟩ := h; rfl) | (obtain ⟨_, _, _, _, _, _, rfl, _⟩ := h; rfl) | (obtain ⟨_, _, _, _, _, _, _, rfl, _⟩ := h; rfl) | (obtain ⟨_, _, _, _, _, _, _, _, rfl, _⟩ := h; rfl) | (obtain ⟨_, _, _, _, _, _, _, _, _, rfl, _⟩ := h; rfl) | (obtain ⟨_, _, _, _, _, _, _, _, _, _, rfl, _⟩ := h; rfl) | (obtain ⟨_, _, _, _, _, _, _, _, _, _, _, rfl, _⟩ := h; rfl) | (obtain ⟨_, _, _, _, _, _, _, _, _, _, _, _, rfl, _⟩ := h; rfl) | (obtain ⟨_, _, _, _, _, _, _, _, _, _, _, _, _, rfl, _⟩ := h; rfl) | (obtain ⟨_, _, _, _, _, _, _, _, _, _, _, _, _, _, rfl, _⟩ := h; rfl) | (obtain ⟨_, _, _, _, _, _, _, _, _, _, _, _, _, _, _, rfl, _⟩ := h; rfl) | (obtain ⟨_, _, _, _, _, _, _, _, _, _, _, _, _, _, _, _, rfl, _⟩ := h; rfl) | (obtain ⟨_, _, _, _, _, _, _, _, _, _, _, _, _, _, _, _, _, rfl, _⟩ := h; rfl) | (obtain ⟨_, _, _, _, _, _, _, _, _, _, _, _, _, _, _, _, _, _, rfl, _⟩ := h; rfl) | (obtain ⟨_, _, _, _, _, _, _, _, _, _, _, _, _, _, _, _, _, _, _, rfl, _⟩ := h; rfl) | (obtain ⟨_, _, _, _, _, _, _, _, _, _, _, _, _, _, _, _, _, _, _, _, rfl, _⟩ := h; rfl) | (obtain ⟨_, _, _, _, _, _, _, _, _, _, _, _, _, _, _, _, _, _, _, _, _, rfl, _⟩ := h; rfl) | (obtain ⟨_, _, _, _, _, _, _, _, _, _, _, _, _, _, _, _, _, _, _, _, _, _, rfl, _⟩ := h; rfl) | (obtain ⟨_, _, _, _, _, _, _, _, _, _, _, _, _, _, _, _, _, _, _, _, _, _, _, rfl, _⟩ := h; rfl) | (obtain ⟨_, _, _, _, _, _, _, _, _, _, _, _, _, _, _, _, _, _, _, _, _, _, _, _, rfl, _⟩ := h; rfl)) (fun cdv A outer s H vs Q E hr h => ⟨t_alike K n, ?_, pure_alike vs H Q E h⟩)
  have hu := hu_of hr
  exact (pss_cons (ps_if (pt_cmpR op_isN1 (pv 1) pe_non (nomark _)) (pss_one (ps_ret (pe_cmpR op_isN1 (pv 0) pe_non (nomark _)))) pss_nil)
    (pss_cons (ps_if (pt_val (pe_callB call_isi (by rfl) T.b_isinstance (by decide +kernel) (pa_cons (pv 1) (pa_cons (pe_bltn (v := .ty "bool") (by rfl) T.b_bool (by decide +kernel) rfl) pa_nil))) (by intro _; rfl)) (pss_one (ps_ret (pe_and (pe_callB call_isi (by rfl) T.b_isinstance (by decide +kernel) (pa_cons (pv 0) (pa_cons (pe_bltn (v := .ty "bool") (by rfl) T.b_bool (by decide +kernel) rfl) pa_nil))) (pe_one (pe_cmpR op_eq (pv 0) (pv 1) (nomark _)))))) pss_nil)
    (pss_cons (ps_if (pt_val (pe_callB call_isi (by rfl) T.b_isinstance (by decide +kernel) (pa_cons (pv 1) (pa_cons (pe_bltn (v := .ty "int") (by rfl) T.b_int (by decide +kernel) rfl) pa_nil))) (by intro _; rfl)) (pss_one (ps_ret (pe_and (pe_callB call_isi (by rfl) T.b_isinstance (by decide +kernel) (pa_cons (pv 0) (pa_cons (pe_bltn (v := .ty "int") (by rfl) T.b_int (by decide +kernel) rfl) pa_nil))) (pe_and (pe_not (pe_callB call_isi (by rfl) T.b_isinstance (by decide +kernel) (pa_cons (pv 0) (pa_cons (pe_bltn (v := .ty "bool") (by rfl) T.b_bool (by decide +kernel) rfl) pa_nil)))) (pe_one (pe_cmpR op_eq (pv 0) (pv 1) (nomark _))))))) pss_nil)
    (pss_cons (ps_if (pt_val (pe_callB call_isi (by rfl) T.b_isinstance (by decide +kernel) (pa_cons (pv 1) (pa_cons (pe_bltn (v := .ty "str") (by rfl) T.b_str (by decide +kernel) rfl) pa_nil))) (by intro _; rfl)) (pss_one (ps_ret (pe_and (pe_callB call_isi (by rfl) T.b_isinstance (by decide +kernel) (pa_cons (pv 0) (pa_cons (pe_bltn (v := .ty "str") (by rfl) T.b_str (by decide +kernel) rfl) pa_nil))) (pe_one (pe_cmpR op_eq (pv 0) (pv 1) (nomark _)))))) pss_nil)
    (pss_cons (ps_if (PW.pt (pw_or (pt_cmpR op_ne (pe_callB call_isi (by rfl) T.b_isinstance (by decide +kernel) (pa_cons (pv 1) (pa_cons (pe_bltn (v := .ty "tuple") (by rfl) T.b_tuple (by decide +kernel) rfl) pa_nil))) (pe_callB call_isi (by rfl) T.b_isinstance (by decide +kernel) (pa_cons (pv 0) (pa_cons (pe_bltn (v := .ty "tuple") (by rfl) T.b_tuple (by decide +kernel) rfl) pa_nil))) (nomark _)) (pw_or1 (pt_cmpR op_ne (pe_callB call_isi (by rfl) T.b_isinstance (by decide +kernel) (pa_cons (pv 1) (pa_cons (pe_bltn (v := .ty "list") (by rfl) T.b_list (by decide +kernel) rfl) pa_nil))) (pe_callB call_isi (by rfl) T.b_isinstance (by decide +kernel) (pa_cons (pv 0) (pa_cons (pe_bltn (v := .ty "list") (by rfl) T.b_list (by decide +kernel) rfl) pa_nil))) (nomark _))))) (pss_one (ps_ret pe_bl)) pss_nil)
    (pss_cons (ps_if (pt_cmpR op_ne (pe_callB call_len_seq (by rfl) T.b_len (by decide +kernel) (pa_cons (pv 0) pa_nil)) (pe_callB call_len_seq (by rfl) T.b_len (by decide +kernel) (pa_cons (pv 1) pa_nil)) (nomark _)) (pss_one (ps_ret pe_bl)) pss_nil)
    (pss_cons (ps_for PassesOwn.never rfl (pi_range1 rfl T.b_range (pa_cons (pe_callB call_len_seq (by rfl) T.b_len (by decide +kernel) (pa_cons (pv 1) pa_nil)) pa_nil)) (pg_name (i := 2) sc__law_alike.nd rfl (Or.inl rfl)) (pss_one (ps_if (pt_not (pt_val (C8.pe_c c_law_alike hr (by omega) rfl (pa_cons (pe_ix ix_seq (pv 0) (pv 2) (fun _ _ => rfl)) (pa_cons (pe_ix ix_seq (pv 1) (pv 2) (fun _ _ => rfl)) pa_nil))) (by intro _; rfl))) (pss_one (ps_ret pe_bl)) pss_nil)))
    (pss_one (ps_ret pe_bl)))))))))
theorem ok_is_word {f : Addr} {fd : FuncData}  (F : Fun K "is_word" "is_word" s_is_word f fd) (T : Txt K w mg dP es n0 cChk cLkr)   : FnOk P w K mg base C8.CX0 (0 + 1) f fd ["word"] (spIsWord K) := by
  refine F.ok sc_is_word (fun vs H Q E h => by first | (obtain ⟨_, rfl, _⟩ := h; rfl) | (obtain ⟨_, _, rfl, _⟩ := h; rfl) | (obtain ⟨_, _, _, rfl, _⟩ := h; rfl) | (obtain ⟨_, _, _, _, rfl, _⟩ := h; rfl) | (obtain ⟨_, _, _, _, _, rfl, _⟩ := h; rfl) | (obtain ⟨_, _, _, _, _, _, rfl, _⟩ := h; rfl) | (obtain ⟨_, _, _, _, _, _, _, rfl, _⟩ := h; rfl) | (obtain ⟨_, _, _, _, _, _, _, _, rfl, _⟩ := h; rfl) | (obtain ⟨_, _, _, _, _, _, _, _, _, rfl, _⟩ := h; rfl) | (obtain ⟨_, _, _, _, _, _, _, _, _, _, rfl, _⟩ := h; rfl) | (obtain ⟨_, _, _, _, _, _, _, _, _, _, _, rfl, _⟩ := h; rfl) | (obtain ⟨_, _, _, _, _, _, _, _, _, _, _, _, rfl, _⟩ := h; rfl) | (obtain ⟨_, _, _, _, _, _, _, _, _, _, _, _, _, rfl, _⟩ := h; rfl) | (obtain ⟨_, _, _, _, _, _, _, _, _, _, _, _, _, _, rfl, _⟩ := h; rfl) | (obtain ⟨_, _, _, _, _, _, _, _, _, _, _, _, _, _, _, rfl, _⟩ := h; rfl) | (obtain ⟨_, _, _, _, _, _, _, _, _, _, _, _, _, _, _, _, rfl, _⟩ := h; rfl) | (obtain ⟨_, _, _, _, _, _, _, _, _, _, _, _, _, _, _, _, _, rfl, _⟩ := h; rfl) | (obtain ⟨_, _, _, _, _, _, _, _, _, _, _, _, _, _, _, _, _, _, rfl, _⟩ := h; rfl) | (obtain ⟨_, _, _, _, _, _, _, _, _, _, _, _, _, _, _, _, _, _, _, rfl, _⟩ := h; rfl) | (obtain ⟨_, _, _, _, _, _, _, _, _, _, _, _, _, _, _, _, _, _, _, _, rfl, _⟩ := h; rfl) | (obtain ⟨_, _, _, _, _, _, _, _, _, _, _, _, _, _, _, _, _, _, _, _, _, rfl, _⟩ := h; rfl) | (obtain ⟨_, _, _, _, _, _, _, _, _, _, _, _, _, _, _, _, _, _, _, _, _, _, rfl, _⟩ := h; rfl) | (obtain ⟨_, _, _, _, _, _, _, _, _, _, _, _, _, _, _, _, _, _, _, _, _, _, _, rfl, _⟩ := h; rfl) | (obtain ⟨_, _, _, _, _, _, _, _, _, _, _, _, _, _, _, _, _, _, _, _, _, _, _, _, rfl, _⟩ := h; rfl)) (fun cdv A outer s H vs Q E hr h => ⟨t_is_word K, ?_, pure_is_word vs H Q E h⟩)
  have hu := hu_of hr
  exact (pss_one (ps_ret (pe_and (pe_chain op_le op_le pe_int (pe_callB call_len_str (by rfl) T.b_len (by decide +kernel) (pa_cons (pv 0) pa_nil)) (C8.pe_gc (by rfl) T.g_MOST_SIGNS)) (pe_one (pe_cmpR (op_eqD hr.units) (pe_lc (own := [("sign", 1)]) (g := (gName 1)) (tt := (tTest (tOp rNotInS (tVar 1) (tC (.str "abcdefghijklmnopqrstuvwxyz"))))) (te := (tVar 1)) rfl sc_is_word.nd (pi_str (pv 0)) (blkOk_by (N := ["word", "sign"]) (sc := defScope s_is_word) (by decide +kernel)) (fun _ _ _ _ _ => (pg_name (i := 1) sc_is_word.nd rfl (Or.inl rfl))) (fun _ _ _ _ _ => (pts_one (pt_cmpR op_notInS (pv 1) (C8.pe_gc (by rfl) T.g_SMALL) (by rfl)))) (fun _ _ _ _ _ => (pv 1))) (pe_lst pa_nil) (nomark _))))))
theorem ok_are_words {f : Addr} {fd : FuncData}  (F : Fun K "are_words" "are_words" s_are_words f fd) (T : Txt K w mg dP es n0 cChk cLkr)  (c_is_word : C8.Cal P w K mg base (1) "is_word" (spIsWord K) []) : FnOk P w K mg base C8.CX0 (1 + 1) f fd ["words", "most"] (spAreWords K) := by
  refine F.ok sc_are_words (fun vs H Q E h => by first | (obtain ⟨_, rfl, _⟩ := h; rfl) | (obtain ⟨_, _, rfl, _⟩ := h; rfl) | (obtain ⟨_, _, _, rfl, _⟩ := h; rfl) | (obtain ⟨_, _, _, _, rfl, _⟩ := h; rfl) | (obtain ⟨_, _, _, _, _, rfl, _⟩ := h; rfl) | (obtain ⟨_, _, _, _, _, _, rfl, _⟩ := h; rfl) | (obtain ⟨_, _, _, _, _, _, _, rfl, _⟩ := h; rfl) | (obtain ⟨_, _, _, _, _, _, _, _, rfl, _⟩ := h; rfl) | (obtain ⟨_, _, _, _, _, _, _, _, _, rfl, _⟩ := h; rfl) | (obtain ⟨_, _, _, _, _, _, _, _, _, _, rfl, _⟩ := h; rfl) | (obtain ⟨_, _, _, _, _, _, _, _, _, _, _, rfl, _⟩ := h; rfl) | (obtain ⟨_, _, _, _, _, _, _, _, _, _, _, _, rfl, _⟩ := h; rfl) | (obtain ⟨_, _, _, _, _, _, _, _, _, _, _, _, _, rfl, _⟩ := h; rfl) | (obtain ⟨_, _, _, _, _, _, _, _, _, _, _, _, _, _, rfl, _⟩ := h; rfl) | (obtain ⟨_, _, _, _, _, _, _, _, _, _, _, _, _, _, _, rfl, _⟩ := h; rfl) | (obtain ⟨_, _, _, _, _, _, _, _, _, _, _, _, _, _, _, _, rfl, _⟩ := h; rfl) | (obtain ⟨_, _, _, _, _, _, _, _, _, _, _, _, _, _, _, _, _, rfl, _⟩ := h; rfl) | (obtain ⟨_, _, _, _, _, _, _, _, _, _, _, _, _, _, _, _, _, _, rfl, _⟩ := h; rfl) | (obtain ⟨_, _, _, _, _, _, _, _, _, _, _, _, _, _, _, _, _, _, _, rfl, _⟩ := h; rfl) | (obtain ⟨_, _, _, _, _, _, _, _, _, _, _, _, _, _, _, _, _, _, _, _, rfl, _⟩ := h; rfl) | (obtain ⟨_, _, _, _, _, _, _, _, _, _, _, _, _, _, _, _, _, _, _, _, _, rfl, _⟩ := h; rfl) | (obtain ⟨_, _, _, _, _, _, _, _, _, _, _, _, _, _, _, _, _, _, _, _, _, _, rfl, _⟩ := h; rfl) | (obtain ⟨_, _, _, _, _, _, _, _, _, _, _, _, _, _, _, _, _, _, _, _, _, _, _, rfl, _⟩ := h; rfl) | (obtain ⟨_, _, _, _, _, _, _, _, _, _, _, _, _, _, _, _, _, _, _, _, _, _, _, _, rfl, _⟩ := h; rfl)) (fun cdv A outer s H vs Q E hr h => ⟨t_are_words K P w, ?_, pure_are_words vs H Q E h⟩)
  have hu := hu_of hr
  exact (pss_one (ps_ret (pe_and (pe_cmpR op_le (pe_callB call_len_seq (by rfl) T.b_len (by decide +kernel) (pa_cons (pv 0) pa_nil)) (pv 1) (nomark _)) (pe_and (pe_cmpR op_eq (pe_callB BNS.cr_lenSetS (by rfl) T.b_len (by decide +kernel) (pa_cons (pe_callTy (BNS.cr_setS rfl) (by rfl) T.b_set (by decide +kernel) (pa_cons (pv 0) pa_nil)) pa_nil)) (pe_callB call_len_seq (by rfl) T.b_len (by decide +kernel) (pa_cons (pv 0) pa_nil)) (nomark _)) (pe_one (pe_callB (cr_all rfl) (by rfl) T.b_all (by decide +kernel) (pa_cons (pe_lc (own := [("word", 2)]) (g := (gName 2)) (tt := tYes) (te := (tCall (spIsWord K) [] C8.E0 (tCons (tVar 2) tNil))) rfl sc_are_words.nd (pi_tup (pv 0)) (blkOk_by (N := ["words", "most", "word"]) (sc := defScope s_are_words) (by decide +kernel)) (fun _ _ _ _ _ => (pg_name (i := 2) sc_are_words.nd rfl (Or.inl rfl))) (fun _ _ _ _ _ => pts_nil) (fun _ _ _ _ _ => (C8.pe_c c_is_word hr (by omega) rfl (pa_cons (pv 2) pa_nil)))) pa_nil)))))))
theorem ok_inner_of {f : Addr} {fd : FuncData}  (F : Fun K "inner_of" "inner_of" s_inner_of f fd) (T : Txt K w mg dP es n0 cChk cLkr)   : FnOk P w K mg base C8.CX0 (0 + 1) f fd ["part"] (spInner K) := by
  refine F.ok sc_inner_of (fun vs H Q E h => by first | (obtain ⟨_, rfl, _⟩ := h; rfl) | (obtain ⟨_, _, rfl, _⟩ := h; rfl) | (obtain ⟨_, _, _, rfl, _⟩ := h; rfl) | (obtain ⟨_, _, _, _, rfl, _⟩ := h; rfl) | (obtain ⟨_, _, _, _, _, rfl, _⟩ := h; rfl) | (obtain ⟨_, _, _, _, _, _, rfl, _⟩ := h; rfl) | (obtain ⟨_, _, _, _, _, _, _, rfl, _⟩ := h; rfl) | (obtain ⟨_, _, _, _, _, _, _, _, rfl, _⟩ := h; rfl) | (obtain ⟨_, _, _, _, _, _, _, _, _, rfl, _⟩ := h; rfl) | (obtain ⟨_, _, _, _, _, _, _, _, _, _, rfl, _⟩ := h; rfl) | (obtain ⟨_, _, _, _, _, _, _, _, _, _, _, rfl, _⟩ := h; rfl) | (obtain ⟨_, _, _, _, _, _, _, _, _, _, _, _, rfl, _⟩ := h; rfl) | (obtain ⟨_, _, _, _, _, _, _, _, _, _, _, _, _, rfl, _⟩ := h; rfl) | (obtain ⟨_, _, _, _, _, _, _, _, _, _, _, _, _, _, rfl, _⟩ := h; rfl) | (obtain ⟨_, _, _, _, _, _, _, _, _, _, _, _, _, _, _, rfl, _⟩ := h; rfl) | (obtain ⟨_, _, _, _, _, _, _, _, _, _, _, _, _, _, _, _, rfl, _⟩ := h; rfl) | (obtain ⟨_, _, _, _, _, _, _, _, _, _, _, _, _, _, _, _, _, rfl, _⟩ := h; rfl) | (obtain ⟨_, _, _, _, _, _, _, _, _, _, _, _, _, _, _, _, _, _, rfl, _⟩ := h; rfl) | (obtain ⟨_, _, _, _, _, _, _, _, _, _, _, _, _, _, _, _, _, _, _, rfl, _⟩ := h; rfl) | (obtain ⟨_, _, _, _, _, _, _, _, _, _, _, _, _, _, _, _, _, _, _, _, rfl, _⟩ := h; rfl) | (obtain ⟨_, _, _, _, _, _, _, _, _, _, _, _, _, _, _, _, _, _, _, _, _, rfl, _⟩ := h; rfl) | (obtain ⟨_, _, _, _, _, _, _, _, _, _, _, _, _, _, _, _, _, _, _, _, _, _, rfl, _⟩ := h; rfl) | (obtain ⟨_, _, _, _, _, _, _, _, _, _, _, _, _, _, _, _, _, _, _, _, _, _, _, rfl, _⟩ := h; rfl) | (obtain ⟨_, _, _, _, _, _, _, _, _, _, _, _, _, _, _, _, _, _, _, _, _, _, _, _, rfl, _⟩ := h; rfl)) (fun cdv A outer s H vs Q E hr h => ⟨t_pinner K, ?_, pure_pinner vs H Q E h⟩)
  have hu := hu_of hr
  exact (pss_cons (ps_asg (pe_ix ix_tup (pv 0) pe_int (fun _ _ => rfl)) (pg_name (i := 1) sc_inner_of.nd rfl (Or.inl rfl)))
    (pss_cons (ps_if (pt_cmpR op_in_seq (pv 1) (pe_tup (pa_cons pe_str (pa_cons pe_str (pa_cons pe_str pa_nil)))) (by rfl)) (pss_one (ps_ret (pe_callTy call_list_of (by rfl) T.b_list (by decide +kernel) (pa_cons (pe_slice sl_tup (pv 0) (po_some pe_int) po_none) pa_nil)))) pss_nil)
    (pss_cons (ps_if (pt_cmpR op_eq (pv 1) pe_str (nomark _)) (pss_one (ps_ret (pe_lst (pa_cons (pe_ix ix_tup (pv 0) pe_int (fun _ _ => rfl)) pa_nil)))) pss_nil)
    (pss_cons (ps_if (pt_cmpR op_eq (pv 1) pe_str (nomark _)) (pss_one (ps_ret (pe_callTy call_list_of (by rfl) T.b_list (by decide +kernel) (pa_cons (pe_slice sl_tup (pv 0) (po_some pe_int) po_none) pa_nil)))) pss_nil)
    (pss_cons (ps_if (pt_cmpR op_eq (pv 1) pe_str (nomark _)) (pss_one (ps_ret (pe_callTy call_list_of (by rfl) T.b_list (by decide +kernel) (pa_cons (pe_slice sl_tup (pv 0) (po_some pe_int) po_none) pa_nil)))) pss_nil)
    (pss_one (ps_ret (pe_ifExp (pt_cmpR op_eq (pv 1) pe_str (nomark _)) (pe_callTy call_list_of (by rfl) T.b_list (by decide +kernel) (pa_cons (pe_ix ix_tup (pv 0) pe_int (fun _ _ => rfl)) pa_nil)) (pe_lst pa_nil)))))))))
theorem ok_Check_must {f : Addr} {fd : FuncData}  (F : Fun K "must" "Check.must" s_Check_must f fd) (T : Txt K w mg dP es n0 cChk cLkr)   : FnOk P w K mg base C8.CX0 (0 + 1) f fd ["self", "good", "place"] spMust := by
  refine F.ok sc_Check_must (fun vs H Q E h => by first | (obtain ⟨_, rfl, _⟩ := h; rfl) | (obtain ⟨_, _, rfl, _⟩ := h; rfl) | (obtain ⟨_, _, _, rfl, _⟩ := h; rfl) | (obtain ⟨_, _, _, _, rfl, _⟩ := h; rfl) | (obtain ⟨_, _, _, _, _, rfl, _⟩ := h; rfl) | (obtain ⟨_, _, _, _, _, _, rfl, _⟩ := h; rfl) | (obtain ⟨_, _, _, _, _, _, _, rfl, _⟩ := h; rfl) | (obtain ⟨_, _, _, _, _, _, _, _, rfl, _⟩ := h; rfl) | (obtain ⟨_, _, _, _, _, _, _, _, _, rfl, _⟩ := h; rfl) | (obtain ⟨_, _, _, _, _, _, _, _, _, _, rfl, _⟩ := h; rfl) | (obtain ⟨_, _, _, _, _, _, _, _, _, _, _, rfl, _⟩ := h; rfl) | (obtain ⟨_, _, _, _, _, _, _, _, _, _, _, _, rfl, _⟩ := h; rfl) | (obtain ⟨_, _, _, _, _, _, _, _, _, _, _, _, _, rfl, _⟩ := h; rfl) | (obtain ⟨_, _, _, _, _, _, _, _, _, _, _, _, _, _, rfl, _⟩ := h; rfl) | (obtain ⟨_, _, _, _, _, _, _, _, _, _, _, _, _, _, _, rfl, _⟩ := h; rfl) | (obtain ⟨_, _, _, _, _, _, _, _, _, _, _, _, _, _, _, _, rfl, _⟩ := h; rfl) | (obtain ⟨_, _, _, _, _, _, _, _, _, _, _, _, _, _, _, _, _, rfl, _⟩ := h; rfl) | (obtain ⟨_, _, _, _, _, _, _, _, _, _, _, _, _, _, _, _, _, _, rfl, _⟩ := h; rfl) | (obtain ⟨_, _, _, _, _, _, _, _, _, _, _, _, _, _, _, _, _, _, _, rfl, _⟩ := h; rfl) | (obtain ⟨_, _, _, _, _, _, _, _, _, _, _, _, _, _, _, _, _, _, _, _, rfl, _⟩ := h; rfl) | (obtain ⟨_, _, _, _, _, _, _, _, _, _, _, _, _, _, _, _, _, _, _, _, _, rfl, _⟩ := h; rfl) | (obtain ⟨_, _, _, _, _, _, _, _, _, _, _, _, _, _, _, _, _, _, _, _, _, _, rfl, _⟩ := h; rfl) | (obtain ⟨_, _, _, _, _, _, _, _, _, _, _, _, _, _, _, _, _, _, _, _, _, _, _, rfl, _⟩ := h; rfl) | (obtain ⟨_, _, _, _, _, _, _, _, _, _, _, _, _, _, _, _, _, _, _, _, _, _, _, _, rfl, _⟩ := h; rfl)) (fun cdv A outer s H vs Q E hr h => ⟨t_must, ?_, pure_must vs H Q E h⟩)
  have hu := hu_of hr
  exact (pss_one (ps_if (PW.pt (pw_or (pt_not (pt_val (pv 1) (by intro _; rfl))) (pw_or1 (pt_cmpR op_ge (pv 2) (C8.pe_gc (by rfl) T.g_MOST_PARTS) (nomark _))))) (pss_one ps_never) pss_nil))
theorem ok_Check_look {f : Addr} {fd : FuncData} {n : Nat} (F : Fun K "look" "Check.look" s_Check_look f fd) (T : Txt K w mg dP es n0 cChk cLkr)  (c_is_word : C8.Cal P w K mg base (1) "is_word" (spIsWord K) []) (c_are_words : C8.Cal P w K mg base (2) "are_words" (spAreWords K) []) (c_inner_of : C8.Cal P w K mg base (1) "inner_of" (spInner K) []) (c_Check_must : C8.Met P w K mg base (1) cChk "must" spMust []) (c_Check_look : C8.Met P w K mg base (n + 2) cChk "look" (spLook K cChk n) []) : FnOk P w K mg base C8.CX0 ((n + 2) + 1) f fd ["self", "part", "names", "funs"] (spLook K cChk (n + 1)) := by
  refine F.ok sc_Check_look (fun vs H Q E h => by first | (obtain ⟨_, rfl, _⟩ := h; rfl) | (obtain ⟨_, _, rfl, _⟩ := h; rfl) | (obtain ⟨_, _, _, rfl, _⟩ := h; rfl) | (obtain ⟨_, _, _, _, rfl, _⟩ := h; rfl) | (obtain ⟨_, _, _, _, _, rfl, _⟩ := h; rfl) | (obtain ⟨_, _, _, _, _, _, rfl, _⟩ := h; rfl) | (obtain ⟨_, _, _, _, _, _, _, rfl, _⟩ := h; rfl) | (obtain ⟨_, _, _, _, _, _, _, _, rfl, _⟩ := h; rfl) | (obtain ⟨_, _, _, _, _, _, _, _, _, rfl, _⟩ := h; rfl) | (obtain ⟨_, _, _, _, _, _, _, _, _, _, rfl, _⟩ := h; rfl) | (obtain ⟨_, _, _, _, _, _, _, _, _, _, _, rfl, _⟩ := h; rfl) | (obtain ⟨_, _, _, _, _, _, _, _, _, _, _, _, rfl, _⟩ := h; rfl) | (obtain ⟨_, _, _, _, _, _, _, _, _, _, _, _, _, rfl, _⟩ := h; rfl) | (obtain ⟨_, _, _, _, _, _, _, _, _, _, _, _, _, _, rfl, _⟩ := h; rfl) | (obtain ⟨_, _, _, _, _, _, _, _, _, _, _, _, _, _, _, rfl, _⟩ := h; rfl) | (obtain ⟨_, _, _, _, _, _, _, _, _, _, _, _, _, _, _, _, rfl, _⟩ := h; rfl) | (obtain ⟨_, _, _, _, _, _, _, _, _, _, _, _, _, _, _, _, _, rfl, _⟩ := h; rfl) | (obtain ⟨_, _, _, _, _, _, _, _, _, _, _, _, _, _, _, _, _, _, rfl, _⟩ := h; rfl) | (obtain ⟨_, _, _, _, _, _, _, _, _, _, _, _, _, _, _, _, _, _, _, rfl, _⟩ := h; rfl) | (obtain ⟨_, _, _, _, _, _, _, _, _, _, _, _, _, _, _, _, _, _, _, _, rfl, _⟩ := h; rfl) | (obtain ⟨_, _, _, _, _, _, _, _, _, _, _, _, _, _, _, _, _, _, _, _, _, rfl, _⟩ := h; rfl) | (obtain ⟨_, _, _, _, _, _, _, _, _, _, _, _, _, _, _, _, _, _, _, _, _, _, rfl, _⟩ := h; rfl) | (obtain ⟨_, _, _, _, _, _, _, _, _, _, _, _, _, _, _, _, _, _, _, _, _, _, _, rfl, _⟩ := h; rfl) | (obtain ⟨_, _, _, _, _, _, _, _, _, _, _, _, _, _, _, _, _, _, _, _, _, _, _, _, rfl, _⟩ := h; rfl)) (fun cdv A outer s H vs Q E hr h => ⟨t_look K w dP cChk n, ?_, pure_look T.chk T.pt vs H Q E h⟩)
  have hu := hu_of hr
  exact (pss_cons (ps_asg (pe_fld (pv 0) rfl) (pg_name (i := 4) sc_Check_look.nd rfl (Or.inl rfl)))
    (pss_cons (ps_fldaug (pv 0) pe_int in_add)
    (pss_cons (ps_asg (pe_ifExp (pt_cmpR (op_neD hr.units) (pv 1) (pe_tup pa_nil) (nomark _)) (pe_ix ix_tup (pv 1) pe_int (fun _ _ => rfl)) pe_str) (pg_name (i := 5) sc_Check_look.nd rfl (Or.inl rfl)))
    (pss_cons (ps_expr (C8.pe_mt c_Check_must hr (by omega) (pv 0) (pa_cons (pe_and (pe_cmpR (op_in_kd T.kd) (pv 5) (C8.pe_gc (by rfl) T.g_PARTS) (by rfl)) (pe_one (pe_cmpR op_eq (pe_callB call_len_seq (by rfl) T.b_len (by decide +kernel) (pa_cons (pv 1) pa_nil)) (pe_ix ix_kdict (C8.pe_gc (by rfl) T.g_PARTS) (pv 5) (fun _ _ => rfl)) (nomark _)))) (pa_cons (pv 4) pa_nil))))
    (pss_one (ps_if (pt_cmpR op_eq (pv 5) pe_str (nomark _)) (pss_one (ps_expr (C8.pe_mt c_Check_must hr (by omega) (pv 0) (pa_cons (pe_chain op_le op_le pe_int (pe_ix ix_tup (pv 1) pe_int (fun _ _ => rfl)) (C8.pe_gc (by rfl) T.g_MOST_NUMBER)) (pa_cons (pv 4) pa_nil))))) (pss_one (ps_if (pt_cmpR op_eq (pv 5) pe_str (nomark _)) (pss_one (ps_expr (C8.pe_mt c_Check_must hr (by omega) (pv 0) (pa_cons (pe_cmpR op_in_seq (pe_ix ix_tup (pv 1) pe_int (fun _ _ => rfl)) (pv 2) (by rfl)) (pa_cons (pv 4) pa_nil))))) (pss_one (ps_if (pt_cmpR op_eq (pv 5) pe_str (nomark _)) (pss_cons (ps_expr (C8.pe_mt c_Check_must hr (by omega) (pv 0) (pa_cons (C8.pe_c c_is_word hr (by omega) rfl (pa_cons (pe_ix ix_tup (pv 1) pe_int (fun _ _ => rfl)) pa_nil)) (pa_cons (pv 4) pa_nil))))
    (pss_cons (ps_expr (C8.pe_mt c_Check_look hr (by omega) (pv 0) (pa_cons (pe_ix ix_tup (pv 1) pe_int (fun _ _ => rfl)) (pa_cons (pv 2) (pa_cons (pv 3) pa_nil)))))
    (pss_one (ps_expr (C8.pe_mt c_Check_look hr (by omega) (pv 0) (pa_cons (pe_ix ix_tup (pv 1) pe_int (fun _ _ => rfl)) (pa_cons (pe_op op_cat (pv 2) (pe_lst (pa_cons (pe_ix ix_tup (pv 1) pe_int (fun _ _ => rfl)) pa_nil))) (pa_cons (pv 3) pa_nil)))))))) (pss_one (ps_if (pt_cmpR op_eq (pv 5) pe_str (nomark _)) (pss_cons (ps_expr (C8.pe_mt c_Check_must hr (by omega) (pv 0) (pa_cons (pe_and (C8.pe_c c_is_word hr (by omega) rfl (pa_cons (pe_ix ix_tup (pv 1) pe_int (fun _ _ => rfl)) pa_nil)) (pe_one (C8.pe_c c_are_words hr (by omega) rfl (pa_cons (pe_ix ix_tup (pv 1) pe_int (fun _ _ => rfl)) (pa_cons (C8.pe_gc (by rfl) T.g_MOST_PARAMS) pa_nil))))) (pa_cons (pv 4) pa_nil))))
    (pss_cons (ps_expr (C8.pe_mt c_Check_look hr (by omega) (pv 0) (pa_cons (pe_ix ix_tup (pv 1) pe_int (fun _ _ => rfl)) (pa_cons (pe_op op_cat (pv 2) (pe_callTy call_list_of (by rfl) T.b_list (by decide +kernel) (pa_cons (pe_ix ix_tup (pv 1) pe_int (fun _ _ => rfl)) pa_nil))) (pa_cons (pv 3) pa_nil)))))
    (pss_cons (ps_asg (pe_callTy call_dictD (by rfl) T.b_dict (by decide +kernel) (pa_cons (pv 3) pa_nil)) (pg_name (i := 6) sc_Check_look.nd rfl (Or.inl rfl)))
    (pss_cons (ps_dput hu (pv 6) (pe_ix ix_tup (pv 1) pe_int (fun _ _ => rfl)) (pe_callB call_len_seq (by rfl) T.b_len (by decide +kernel) (pa_cons (pe_ix ix_tup (pv 1) pe_int (fun _ _ => rfl)) pa_nil)) rfl)
    (pss_one (ps_expr (C8.pe_mt c_Check_look hr (by omega) (pv 0) (pa_cons (pe_ix ix_tup (pv 1) pe_int (fun _ _ => rfl)) (pa_cons (pv 2) (pa_cons (pv 6) pa_nil)))))))))) (pss_cons (ps_if (pt_cmpR op_eq (pv 5) pe_str (nomark _)) (pss_one (ps_expr (C8.pe_mt c_Check_must hr (by omega) (pv 0) (pa_cons (pe_cmpR op_eq (pe_dget2 hu (pv 3) (pe_ix ix_tup (pv 1) pe_int (fun _ _ => rfl)) (pe_un un_neg pe_int) ⟨rfl, rfl, rfl, rfl⟩) (pe_callB call_len_seq (by rfl) T.b_len (by decide +kernel) (pa_cons (pe_ix ix_tup (pv 1) pe_int (fun _ _ => rfl)) pa_nil)) (nomark _)) (pa_cons (pv 4) pa_nil))))) pss_nil)
    (pss_one (ps_for PassesOwn.never rfl (pi_list (C8.pe_c c_inner_of hr (by omega) rfl (pa_cons (pv 1) pa_nil))) (pg_name (i := 7) sc_Check_look.nd rfl (Or.inl rfl)) (pss_one (ps_expr (C8.pe_mt c_Check_look hr (by omega) (pv 0) (pa_cons (pv 7) (pa_cons (pv 2) (pa_cons (pv 3) pa_nil)))))))))))))))))))))
theorem ok_check_program {f : Addr} {fd : FuncData}  (F : Fun K "check_program" "check_program" s_check_program f fd) (T : Txt K w mg dP es n0 cChk cLkr)  (c_are_words : C8.Cal P w K mg base (2) "are_words" (spAreWords K) []) (c_Check : C8.Mak P w K mg base (1) "Check" cChk (spChkInit cChk) []) (c_Check_must : C8.Met P w K mg base (1) cChk "must" spMust []) (c_Check_look : C8.Met P w K mg base (22) cChk "look" (spLook K cChk 20) []) : FnOk P w K mg base C8.CX0 (22 + 1) f fd ["program"] (spCheckP K) := by
  refine F.ok sc_check_program (fun vs H Q E h => by first | (obtain ⟨_, rfl, _⟩ := h; rfl) | (obtain ⟨_, _, rfl, _⟩ := h; rfl) | (obtain ⟨_, _, _, rfl, _⟩ := h; rfl) | (obtain ⟨_, _, _, _, rfl, _⟩ := h; rfl) | (obtain ⟨_, _, _, _, _, rfl, _⟩ := h; rfl) | (obtain ⟨_, _, _, _, _, _, rfl, _⟩ := h; rfl) | (obtain ⟨_, _, _, _, _, _, _, rfl, _⟩ := h; rfl) | (obtain ⟨_, _, _, _, _, _, _, _, rfl, _⟩ := h; rfl) | (obtain ⟨_, _, _, _, _, _, _, _, _, rfl, _⟩ := h; rfl) | (obtain ⟨_, _, _, _, _, _, _, _, _, _, rfl, _⟩ := h; rfl) | (obtain ⟨_, _, _, _, _, _, _, _, _, _, _, rfl, _⟩ := h; rfl) | (obtain ⟨_, _, _, _, _, _, _, _, _, _, _, _, rfl, _⟩ := h; rfl) | (obtain ⟨_, _, _, _, _, _, _, _, _, _, _, _, _, rfl, _⟩ := h; rfl) | (obtain ⟨_, _, _, _, _, _, _, _, _, _, _, _, _, _, rfl, _⟩ := h; rfl) | (obtain ⟨_, _, _, _, _, _, _, _, _, _, _, _, _, _, _, rfl, _⟩ := h; rfl) | (obtain ⟨_, _, _, _, _, _, _, _, _, _, _, _, _, _, _, _, rfl, _⟩ := h; rfl) | (obtain ⟨_, _, _, _, _, _, _, _, _, _, _, _, _, _, _, _, _, rfl, _⟩ := h; rfl) | (obtain ⟨_, _, _, _, _, _, _, _, _, _, _, _, _, _, _, _, _, _, rfl, _⟩ := h; rfl) | (obtain ⟨_, _, _, _, _, _, _, _, _, _, _, _, _, _, _, _, _, _, _, rfl, _⟩ := h; rfl) | (obtain ⟨_, _, _, _, _, _, _, _, _, _, _, _, _, _, _, _, _, _, _, _, rfl, _⟩ := h; rfl) | (obtain ⟨_, _, _, _, _, _, _, _, _, _, _, _, _, _, _, _, _, _, _, _, _, rfl, _⟩ := h; rfl) | (obtain ⟨_, _, _, _, _, _, _, _, _, _, _, _, _, _, _, _, _, _, _, _, _, _, rfl, _⟩ := h; rfl) | (obtain ⟨_, _, _, _, _, _, _, _, _, _, _, _, _, _, _, _, _, _, _, _, _, _, _, rfl, _⟩ := h; rfl) | (obtain ⟨_, _, _, _, _, _, _, _, _, _, _, _, _, _, _, _, _, _, _, _, _, _, _, _, rfl, _⟩ := h; rfl)) (fun cdv A outer s H vs Q E hr h => ⟨t_checkP K cChk, ?_, (pure_checkP (es := es) (n0 := n0)) vs H Q E h⟩)
  have hu := hu_of hr
  exact (pss_cons (ps_asg (pv 0) (pg_tup (by rfl) (pgs_cons (pg_name (i := 1) sc_check_program.nd rfl (Or.inl rfl)) (pgs_cons (pg_name (i := 2) sc_check_program.nd rfl (Or.inl rfl)) pgs_nil))))
    (pss_cons (ps_asg (pe_mk0 c_Check hr (by omega) rfl) (pg_name (i := 3) sc_check_program.nd rfl (Or.inl rfl)))
    (pss_cons (ps_expr (C8.pe_mt c_Check_must hr (by omega) (pv 3) (pa_cons (C8.pe_c c_are_words hr (by omega) rfl (pa_cons (pv 1) (pa_cons (C8.pe_gc (by rfl) T.g_MOST_INPUTS) pa_nil))) (pa_cons pe_int pa_nil))))
    (pss_one (ps_expr (C8.pe_mt c_Check_look hr (by omega) (pv 3) (pa_cons (pv 2) (pa_cons (pe_callTy call_list_of (by rfl) T.b_list (by decide +kernel) (pa_cons (pv 1) pa_nil)) (pa_cons pe_dnewK pa_nil)))))))))
theorem ok_size_of {f : Addr} {fd : FuncData} {n : Nat} (F : Fun K "size_of" "size_of" s_size_of f fd) (T : Txt K w mg dP es n0 cChk cLkr)  (c_size_of : C8.Cal P w K mg base (n + 1) "size_of" (spSize K n) []) (c_inner_of : C8.Cal P w K mg base (1) "inner_of" (spInner K) []) : FnOk P w K mg base C8.CX0 ((n + 1) + 1) f fd ["part"] (spSize K (n + 1)) := by
  refine F.ok sc_size_of (fun vs H Q E h => by first | (obtain ⟨_, rfl, _⟩ := h; rfl) | (obtain ⟨_, _, rfl, _⟩ := h; rfl) | (obtain ⟨_, _, _, rfl, _⟩ := h; rfl) | (obtain ⟨_, _, _, _, rfl, _⟩ := h; rfl) | (obtain ⟨_, _, _, _, _, rfl, _⟩ := h; rfl) | (obtain ⟨_, _, _, _, _, _, rfl, _⟩ := h; rfl) | (obtain ⟨_, _, _, _, _, _, _, rfl, _⟩ := h; rfl) | (obtain ⟨_, _, _, _, _, _, _, _, rfl, _⟩ := h; rfl) | (obtain ⟨_, _, _, _, _, _, _, _, _, rfl, _⟩ := h; rfl) | (obtain ⟨_, _, _, _, _, _, _, _, _, _, rfl, _⟩ := h; rfl) | (obtain ⟨_, _, _, _, _, _, _, _, _, _, _, rfl, _⟩ := h; rfl) | (obtain ⟨_, _, _, _, _, _, _, _, _, _, _, _, rfl, _⟩ := h; rfl) | (obtain ⟨_, _, _, _, _, _, _, _, _, _, _, _, _, rfl, _⟩ := h; rfl) | (obtain ⟨_, _, _, _, _, _, _, _, _, _, _, _, _, _, rfl, _⟩ := h; rfl) | (obtain ⟨_, _, _, _, _, _, _, _, _, _, _, _, _, _, _, rfl, _⟩ := h; rfl) | (obtain ⟨_, _, _, _, _, _, _, _, _, _, _, _, _, _, _, _, rfl, _⟩ := h; rfl) | (obtain ⟨_, _, _, _, _, _, _, _, _, _, _, _, _, _, _, _, _, rfl, _⟩ := h; rfl) | (obtain ⟨_, _, _, _, _, _, _, _, _, _, _, _, _, _, _, _, _, _, rfl, _⟩ := h; rfl) | (obtain ⟨_, _, _, _, _, _, _, _, _, _, _, _, _, _, _, _, _, _, _, rfl, _⟩ := h; rfl) | (obtain ⟨_, _, _, _, _, _, _, _, _, _, _, _, _, _, _, _, _, _, _, _, rfl, _⟩ := h; rfl) | (obtain ⟨_, _, _, _, _, _, _, _, _, _, _, _, _, _, _, _, _, _, _, _, _, rfl, _⟩ := h; rfl) | (obtain ⟨_, _, _, _, _, _, _, _, _, _, _, _, _, _, _, _, _, _, _, _, _, _, rfl, _⟩ := h; rfl) | (obtain ⟨_, _, _, _, _, _, _, _, _, _, _, _, _, _, _, _, _, _, _, _, _, _, _, rfl, _⟩ := h; rfl) | (obtain ⟨_, _, _, _, _, _, _, _, _, _, _, _, _, _, _, _, _, _, _, _, _, _, _, _, rfl, _⟩ := h; rfl)) (fun cdv A outer s H vs Q E hr h => ⟨t_size K n, ?_, pure_size vs H Q E h⟩)
  have hu := hu_of hr
  exact (pss_one (ps_ret (pe_op op_add pe_int (pe_callB (cr_sum rfl) (by rfl) T.b_sum (by decide +kernel) (pa_cons (pe_lc (own := [("one", 1)]) (g := (gName 1)) (tt := tYes) (te := (tCall (spSize K n) [] C8.E0 (tCons (tVar 1) tNil))) rfl sc_size_of.nd (pi_list (C8.pe_c c_inner_of hr (by omega) rfl (pa_cons (pv 0) pa_nil))) (blkOk_by (N := ["part", "one"]) (sc := defScope s_size_of) (by decide +kernel)) (fun _ _ _ _ _ => (pg_name (i := 1) sc_size_of.nd rfl (Or.inl rfl))) (fun _ _ _ _ _ => pts_nil) (fun _ _ _ _ _ => (C8.pe_c c_size_of hr (by omega) rfl (pa_cons (pv 1) pa_nil)))) pa_nil)))))
theorem ok_Looker_see {f : Addr} {fd : FuncData}  (F : Fun K "see" "Looker.see" s_Looker_see f fd) (T : Txt K w mg dP es n0 cChk cLkr)   : FnOk P w K mg base C8.CX0 (0 + 1) f fd ["self", "number", "near", "called"] (spSee K cLkr) := by
  refine F.ok sc_Looker_see (fun vs H Q E h => by first | (obtain ⟨_, rfl, _⟩ := h; rfl) | (obtain ⟨_, _, rfl, _⟩ := h; rfl) | (obtain ⟨_, _, _, rfl, _⟩ := h; rfl) | (obtain ⟨_, _, _, _, rfl, _⟩ := h; rfl) | (obtain ⟨_, _, _, _, _, rfl, _⟩ := h; rfl) | (obtain ⟨_, _, _, _, _, _, rfl, _⟩ := h; rfl) | (obtain ⟨_, _, _, _, _, _, _, rfl, _⟩ := h; rfl) | (obtain ⟨_, _, _, _, _, _, _, _, rfl, _⟩ := h; rfl) | (obtain ⟨_, _, _, _, _, _, _, _, _, rfl, _⟩ := h; rfl) | (obtain ⟨_, _, _, _, _, _, _, _, _, _, rfl, _⟩ := h; rfl) | (obtain ⟨_, _, _, _, _, _, _, _, _, _, _, rfl, _⟩ := h; rfl) | (obtain ⟨_, _, _, _, _, _, _, _, _, _, _, _, rfl, _⟩ := h; rfl) | (obtain ⟨_, _, _, _, _, _, _, _, _, _, _, _, _, rfl, _⟩ := h; rfl) | (obtain ⟨_, _, _, _, _, _, _, _, _, _, _, _, _, _, rfl, _⟩ := h; rfl) | (obtain ⟨_, _, _, _, _, _, _, _, _, _, _, _, _, _, _, rfl, _⟩ := h; rfl) | (obtain ⟨_, _, _, _, _, _, _, _, _, _, _, _, _, _, _, _, rfl, _⟩ := h; rfl) | (obtain ⟨_, _, _, _, _, _, _, _, _, _, _, _, _, _, _, _, _, rfl, _⟩ := h; rfl) | (obtain ⟨_, _, _, _, _, _, _, _, _, _, _, _, _, _, _, _, _, _, rfl, _⟩ := h; rfl) | (obtain ⟨_, _, _, _, _, _, _, _, _, _, _, _, _, _, _, _, _, _, _, rfl, _⟩ := h; rfl) | (obtain ⟨_, _, _, _, _, _, _, _, _, _, _, _, _, _, _, _, _, _, _, _, rfl, _⟩ := h; rfl) | (obtain ⟨_, _, _, _, _, _, _, _, _, _, _, _, _, _, _, _, _, _, _, _, _, rfl, _⟩ := h; rfl) | (obtain ⟨_, _, _, _, _, _, _, _, _, _, _, _, _, _, _, _, _, _, _, _, _, _, rfl, _⟩ := h; rfl) | (obtain ⟨_, _, _, _, _, _, _, _, _, _, _, _, _, _, _, _, _, _, _, _, _, _, _, rfl, _⟩ := h; rfl) | (obtain ⟨_, _, _, _, _, _, _, _, _, _, _, _, _, _, _, _, _, _, _, _, _, _, _, _, rfl, _⟩ := h; rfl)) (fun cdv A outer s H vs Q E hr h => ⟨t_see K P w, ?_, pure_see T.lkr vs H Q E h⟩)
  have hu := hu_of hr
  exact (pss_cons (ps_dput hu (pe_fld (pv 0) rfl) (pv 1) (pv 2) rfl)
    (pss_cons (ps_asg (pe_dget2 hu (pe_fld (pv 0) rfl) (pv 1) (pe_lst pa_nil) ⟨rfl, rfl, rfl, rfl⟩) (pg_name (i := 4) sc_Looker_see.nd rfl (Or.inl rfl)))
    (pss_one (ps_dput hu (pe_fld (pv 0) rfl) (pv 1) (pe_callB (BNQ.call_sortSI rfl hr.units) (by rfl) T.b_sorted (by decide +kernel) (pa_cons (pe_callTy (BNS.cr_setI2 rfl) (by rfl) T.b_set (by decide +kernel) (pa_cons (pe_op op_cat (pv 4) (pe_lst (pa_cons (pv 3) pa_nil))) pa_nil)) pa_nil)) rfl))))
theorem ok_with_one {f : Addr} {fd : FuncData}  (F : Fun K "with_one" "with_one" s_with_one f fd) (T : Txt K w mg dP es n0 cChk cLkr)   : FnOk P w K mg base C8.CX0 (0 + 1) f fd ["bound", "name", "number"] spWith1 := by
  refine F.ok sc_with_one (fun vs H Q E h => by first | (obtain ⟨_, rfl, _⟩ := h; rfl) | (obtain ⟨_, _, rfl, _⟩ := h; rfl) | (obtain ⟨_, _, _, rfl, _⟩ := h; rfl) | (obtain ⟨_, _, _, _, rfl, _⟩ := h; rfl) | (obtain ⟨_, _, _, _, _, rfl, _⟩ := h; rfl) | (obtain ⟨_, _, _, _, _, _, rfl, _⟩ := h; rfl) | (obtain ⟨_, _, _, _, _, _, _, rfl, _⟩ := h; rfl) | (obtain ⟨_, _, _, _, _, _, _, _, rfl, _⟩ := h; rfl) | (obtain ⟨_, _, _, _, _, _, _, _, _, rfl, _⟩ := h; rfl) | (obtain ⟨_, _, _, _, _, _, _, _, _, _, rfl, _⟩ := h; rfl) | (obtain ⟨_, _, _, _, _, _, _, _, _, _, _, rfl, _⟩ := h; rfl) | (obtain ⟨_, _, _, _, _, _, _, _, _, _, _, _, rfl, _⟩ := h; rfl) | (obtain ⟨_, _, _, _, _, _, _, _, _, _, _, _, _, rfl, _⟩ := h; rfl) | (obtain ⟨_, _, _, _, _, _, _, _, _, _, _, _, _, _, rfl, _⟩ := h; rfl) | (obtain ⟨_, _, _, _, _, _, _, _, _, _, _, _, _, _, _, rfl, _⟩ := h; rfl) | (obtain ⟨_, _, _, _, _, _, _, _, _, _, _, _, _, _, _, _, rfl, _⟩ := h; rfl) | (obtain ⟨_, _, _, _, _, _, _, _, _, _, _, _, _, _, _, _, _, rfl, _⟩ := h; rfl) | (obtain ⟨_, _, _, _, _, _, _, _, _, _, _, _, _, _, _, _, _, _, rfl, _⟩ := h; rfl) | (obtain ⟨_, _, _, _, _, _, _, _, _, _, _, _, _, _, _, _, _, _, _, rfl, _⟩ := h; rfl) | (obtain ⟨_, _, _, _, _, _, _, _, _, _, _, _, _, _, _, _, _, _, _, _, rfl, _⟩ := h; rfl) | (obtain ⟨_, _, _, _, _, _, _, _, _, _, _, _, _, _, _, _, _, _, _, _, _, rfl, _⟩ := h; rfl) | (obtain ⟨_, _, _, _, _, _, _, _, _, _, _, _, _, _, _, _, _, _, _, _, _, _, rfl, _⟩ := h; rfl) | (obtain ⟨_, _, _, _, _, _, _, _, _, _, _, _, _, _, _, _, _, _, _, _, _, _, _, rfl, _⟩ := h; rfl) | (obtain ⟨_, _, _, _, _, _, _, _, _, _, _, _, _, _, _, _, _, _, _, _, _, _, _, _, rfl, _⟩ := h; rfl)) (fun cdv A outer s H vs Q E hr h => ⟨t_with1 K, ?_, pure_with1 vs H Q E h⟩)
  have hu := hu_of hr
  exact (pss_cons (ps_asg (pe_callTy call_dictD (by rfl) T.b_dict (by decide +kernel) (pa_cons (pv 0) pa_nil)) (pg_name (i := 3) sc_with_one.nd rfl (Or.inl rfl)))
    (pss_cons (ps_dput hu (pv 3) (pv 1) (pv 2) rfl)
    (pss_one (ps_ret (pv 3)))))
theorem ok_Looker_go {f : Addr} {fd : FuncData} {n : Nat} (F : Fun K "go" "Looker.go" s_Looker_go f fd) (T : Txt K w mg dP es n0 cChk cLkr)  (c_Looker_see : C8.Met P w K mg base (1) cLkr "see" (spSee K cLkr) []) (c_Looker_go : C8.Met P w K mg base (n + 21) cLkr "go" (spGo K P w cLkr n) []) (c_Looker_enter : C8.Met P w K mg base (n + 21) cLkr "enter" (spEnter K P w cLkr n) []) (c_with_one : C8.Cal P w K mg base (1) "with_one" spWith1 []) (c_size_of : C8.Cal P w K mg base (21) "size_of" (spSize K 20) []) : FnOk P w K mg base C8.CX0 ((n + 21) + 1) f fd ["self", "part", "number", "near", "called", "funs"] (spGo K P w cLkr (n + 1)) := by
  refine F.ok sc_Looker_go (fun vs H Q E h => by first | (obtain ⟨_, rfl, _⟩ := h; rfl) | (obtain ⟨_, _, rfl, _⟩ := h; rfl) | (obtain ⟨_, _, _, rfl, _⟩ := h; rfl) | (obtain ⟨_, _, _, _, rfl, _⟩ := h; rfl) | (obtain ⟨_, _, _, _, _, rfl, _⟩ := h; rfl) | (obtain ⟨_, _, _, _, _, _, rfl, _⟩ := h; rfl) | (obtain ⟨_, _, _, _, _, _, _, rfl, _⟩ := h; rfl) | (obtain ⟨_, _, _, _, _, _, _, _, rfl, _⟩ := h; rfl) | (obtain ⟨_, _, _, _, _, _, _, _, _, rfl, _⟩ := h; rfl) | (obtain ⟨_, _, _, _, _, _, _, _, _, _, rfl, _⟩ := h; rfl) | (obtain ⟨_, _, _, _, _, _, _, _, _, _, _, rfl, _⟩ := h; rfl) | (obtain ⟨_, _, _, _, _, _, _, _, _, _, _, _, rfl, _⟩ := h; rfl) | (obtain ⟨_, _, _, _, _, _, _, _, _, _, _, _, _, rfl, _⟩ := h; rfl) | (obtain ⟨_, _, _, _, _, _, _, _, _, _, _, _, _, _, rfl, _⟩ := h; rfl) | (obtain ⟨_, _, _, _, _, _, _, _, _, _, _, _, _, _, _, rfl, _⟩ := h; rfl) | (obtain ⟨_, _, _, _, _, _, _, _, _, _, _, _, _, _, _, _, rfl, _⟩ := h; rfl) | (obtain ⟨_, _, _, _, _, _, _, _, _, _, _, _, _, _, _, _, _, rfl, _⟩ := h; rfl) | (obtain ⟨_, _, _, _, _, _, _, _, _, _, _, _, _, _, _, _, _, _, rfl, _⟩ := h; rfl) | (obtain ⟨_, _, _, _, _, _, _, _, _, _, _, _, _, _, _, _, _, _, _, rfl, _⟩ := h; rfl) | (obtain ⟨_, _, _, _, _, _, _, _, _, _, _, _, _, _, _, _, _, _, _, _, rfl, _⟩ := h; rfl) | (obtain ⟨_, _, _, _, _, _, _, _, _, _, _, _, _, _, _, _, _, _, _, _, _, rfl, _⟩ := h; rfl) | (obtain ⟨_, _, _, _, _, _, _, _, _, _, _, _, _, _, _, _, _, _, _, _, _, _, rfl, _⟩ := h; rfl) | (obtain ⟨_, _, _, _, _, _, _, _, _, _, _, _, _, _, _, _, _, _, _, _, _, _, _, rfl, _⟩ := h; rfl) | (obtain ⟨_, _, _, _, _, _, _, _, _, _, _, _, _, _, _, _, _, _, _, _, _, _, _, _, rfl, _⟩ := h; rfl)) (fun cdv A outer s H vs Q E hr h => ⟨t_go K P w cLkr n, ?_, pure_go T.lkr vs H Q E h⟩)
  have hu := hu_of hr
  exact (pss_cons (ps_asg (pe_ix ix_tup (pv 1) pe_int (fun _ _ => rfl)) (pg_name (i := 6) sc_Looker_go.nd rfl (Or.inr rfl)))
    (pss_one (ps_if (pt_cmpR op_eq (pv 6) pe_str (nomark _)) (pss_one (ps_expr (C8.pe_mt c_Looker_see hr (by omega) (pv 0) (pa_cons (pv 2) (pa_cons (pe_dget hu (pv 3) (pe_ix ix_tup (pv 1) pe_int (fun _ _ => rfl)) (fun _ _ => rfl)) (pa_cons (pe_dget hu (pv 4) (pe_ix ix_tup (pv 1) pe_int (fun _ _ => rfl)) (fun _ _ => rfl)) pa_nil)))))) (pss_one (ps_if (pt_cmpR op_eq (pv 6) pe_str (nomark _)) (pss_cons (ps_expr (C8.pe_mt c_Looker_go hr (by omega) (pv 0) (pa_cons (pe_ix ix_tup (pv 1) pe_int (fun _ _ => rfl)) (pa_cons (pe_op op_add (pv 2) pe_int) (pa_cons (pv 3) (pa_cons (pv 4) (pa_cons (pv 5) pa_nil)))))))
    (pss_cons (ps_asg (pe_op op_add (pe_op op_add (pv 2) pe_int) (C8.pe_c c_size_of hr (by omega) rfl (pa_cons (pe_ix ix_tup (pv 1) pe_int (fun _ _ => rfl)) pa_nil))) (pg_name (i := 7) sc_Looker_go.nd rfl (Or.inl rfl)))
    (pss_one (ps_expr (C8.pe_mt c_Looker_go hr (by omega) (pv 0) (pa_cons (pe_ix ix_tup (pv 1) pe_int (fun _ _ => rfl)) (pa_cons (pv 7) (pa_cons (C8.pe_c c_with_one hr (by omega) rfl (pa_cons (pv 3) (pa_cons (pe_ix ix_tup (pv 1) pe_int (fun _ _ => rfl)) (pa_cons (pv 2) pa_nil)))) (pa_cons (C8.pe_c c_with_one hr (by omega) rfl (pa_cons (pv 4) (pa_cons (pe_ix ix_tup (pv 1) pe_int (fun _ _ => rfl)) (pa_cons (pv 2) pa_nil)))) (pa_cons (pv 5) pa_nil)))))))))) (pss_one (ps_if (pt_cmpR op_eq (pv 6) pe_str (nomark _)) (pss_cons (ps_asg (pe_callTy call_dictD (by rfl) T.b_dict (by decide +kernel) (pa_cons (pv 5) pa_nil)) (pg_name (i := 8) sc_Looker_go.nd rfl (Or.inl rfl)))
    (pss_cons (ps_dput hu (pv 8) (pe_ix ix_tup (pv 1) pe_int (fun _ _ => rfl)) (pe_tup (pa_cons (pv 2) (pa_cons (pv 1) (pa_cons (pv 3) (pa_cons (pv 5) pa_nil))))) rfl)
    (pss_one (ps_expr (C8.pe_mt c_Looker_go hr (by omega) (pv 0) (pa_cons (pe_ix ix_tup (pv 1) pe_int (fun _ _ => rfl)) (pa_cons (pe_op op_add (pe_op op_add (pv 2) pe_int) (C8.pe_c c_size_of hr (by omega) rfl (pa_cons (pe_ix ix_tup (pv 1) pe_int (fun _ _ => rfl)) pa_nil))) (pa_cons (pv 3) (pa_cons (pv 4) (pa_cons (pv 8) pa_nil)))))))))) (pss_cons (ps_asg (pe_op op_add (pv 2) pe_int) (pg_name (i := 7) sc_Looker_go.nd rfl (Or.inl rfl)))
    (pss_cons (ps_asg (pe_ifExp (pt_cmpR op_eq (pv 6) pe_str (nomark _)) (pe_callTy call_list_of (by rfl) T.b_list (by decide +kernel) (pa_cons (pe_ix ix_tup (pv 1) pe_int (fun _ _ => rfl)) pa_nil)) (pe_lc (own := [("one", 9)]) (g := (gName 9)) (tt := (tTest (tOp rNe (tVar 6) (tC (.str "num"))))) (te := (tVar 9)) rfl sc_Looker_go.nd (pi_tup (pe_slice sl_tup (pv 1) (po_some pe_int) po_none)) (blkOk_by (N := ["self", "part", "number", "near", "called", "funs", "word", "inner", "known", "one", "some"]) (sc := defScope s_Looker_go) (by decide +kernel)) (fun _ _ _ _ _ => (pg_name (i := 9) sc_Looker_go.nd rfl (Or.inl rfl))) (fun _ _ _ _ _ => (pts_one (pt_cmpR op_ne (pv 6) pe_str (nomark _)))) (fun _ _ _ _ _ => (pv 9)))) (pg_name (i := 10) sc_Looker_go.nd rfl (Or.inl rfl)))
    (pss_cons (ps_for PassesOwn.never rfl (pi_list (pv 10)) (pg_name (i := 9) sc_Looker_go.nd rfl (Or.inl rfl)) (pss_cons (ps_expr (C8.pe_mt c_Looker_go hr (by omega) (pv 0) (pa_cons (pv 9) (pa_cons (pv 7) (pa_cons (pv 3) (pa_cons (pv 4) (pa_cons (pv 5) pa_nil)))))))
    (pss_one (ps_asg (pe_op op_add (pv 7) (C8.pe_c c_size_of hr (by omega) rfl (pa_cons (pv 9) pa_nil))) (pg_name (i := 7) sc_Looker_go.nd rfl (Or.inl rfl))))))
    (pss_one (ps_if (pt_cmpR op_eq (pv 6) pe_str (nomark _)) (pss_one (ps_expr (C8.pe_mt c_Looker_enter hr (by omega) (pv 0) (pa_cons (pe_dget hu (pv 5) (pe_ix ix_tup (pv 1) pe_int (fun _ _ => rfl)) (fun _ _ => rfl)) (pa_cons (pv 4) pa_nil))))) pss_nil))))))))))))
theorem ok_Looker_enter {f : Addr} {fd : FuncData} {n : Nat} (F : Fun K "enter" "Looker.enter" s_Looker_enter f fd) (T : Txt K w mg dP es n0 cChk cLkr)  (c_Looker_go : C8.Met P w K mg base (n + 21) cLkr "go" (spGo K P w cLkr n) []) (c_with_one : C8.Cal P w K mg base (1) "with_one" spWith1 []) : FnOk P w K mg base C8.CX0 ((n + 21) + 1) f fd ["self", "fun", "called"] (spEnter K P w cLkr (n + 1)) := by
  refine F.ok sc_Looker_enter (fun vs H Q E h => by first | (obtain ⟨_, rfl, _⟩ := h; rfl) | (obtain ⟨_, _, rfl, _⟩ := h; rfl) | (obtain ⟨_, _, _, rfl, _⟩ := h; rfl) | (obtain ⟨_, _, _, _, rfl, _⟩ := h; rfl) | (obtain ⟨_, _, _, _, _, rfl, _⟩ := h; rfl) | (obtain ⟨_, _, _, _, _, _, rfl, _⟩ := h; rfl) | (obtain ⟨_, _, _, _, _, _, _, rfl, _⟩ := h; rfl) | (obtain ⟨_, _, _, _, _, _, _, _, rfl, _⟩ := h; rfl) | (obtain ⟨_, _, _, _, _, _, _, _, _, rfl, _⟩ := h; rfl) | (obtain ⟨_, _, _, _, _, _, _, _, _, _, rfl, _⟩ := h; rfl) | (obtain ⟨_, _, _, _, _, _, _, _, _, _, _, rfl, _⟩ := h; rfl) | (obtain ⟨_, _, _, _, _, _, _, _, _, _, _, _, rfl, _⟩ := h; rfl) | (obtain ⟨_, _, _, _, _, _, _, _, _, _, _, _, _, rfl, _⟩ := h; rfl) | (obtain ⟨_, _, _, _, _, _, _, _, _, _, _, _, _, _, rfl, _⟩ := h; rfl) | (obtain ⟨_, _, _, _, _, _, _, _, _, _, _, _, _, _, _, rfl, _⟩ := h; rfl) | (obtain ⟨_, _, _, _, _, _, _, _, _, _, _, _, _, _, _, _, rfl, _⟩ := h; rfl) | (obtain ⟨_, _, _, _, _, _, _, _, _, _, _, _, _, _, _, _, _, rfl, _⟩ := h; rfl) | (obtain ⟨_, _, _, _, _, _, _, _, _, _, _, _, _, _, _, _, _, _, rfl, _⟩ := h; rfl) | (obtain ⟨_, _, _, _, _, _, _, _, _, _, _, _, _, _, _, _, _, _, _, rfl, _⟩ := h; rfl) | (obtain ⟨_, _, _, _, _, _, _, _, _, _, _, _, _, _, _, _, _, _, _, _, rfl, _⟩ := h; rfl) | (obtain ⟨_, _, _, _, _, _, _, _, _, _, _, _, _, _, _, _, _, _, _, _, _, rfl, _⟩ := h; rfl) | (obtain ⟨_, _, _, _, _, _, _, _, _, _, _, _, _, _, _, _, _, _, _, _, _, _, rfl, _⟩ := h; rfl) | (obtain ⟨_, _, _, _, _, _, _, _, _, _, _, _, _, _, _, _, _, _, _, _, _, _, _, rfl, _⟩ := h; rfl) | (obtain ⟨_, _, _, _, _, _, _, _, _, _, _, _, _, _, _, _, _, _, _, _, _, _, _, _, rfl, _⟩ := h; rfl)) (fun cdv A outer s H vs Q E hr h => ⟨t_enter K P w cLkr n, ?_, pure_enter T.lkr vs H Q E h⟩)
  have hu := hu_of hr
  exact (pss_cons (ps_asg (pv 1) (pg_tup (by rfl) (pgs_cons (pg_name (i := 3) sc_Looker_enter.nd rfl (Or.inl rfl)) (pgs_cons (pg_name (i := 4) sc_Looker_enter.nd rfl (Or.inl rfl)) (pgs_cons (pg_name (i := 5) sc_Looker_enter.nd rfl (Or.inl rfl)) (pgs_cons (pg_name (i := 6) sc_Looker_enter.nd rfl (Or.inl rfl)) pgs_nil))))))
    (pss_cons (ps_asg (pe_tup (pa_cons (pv 3) (pa_cons (pe_callTy call_tuple_of (by rfl) T.b_tuple (by decide +kernel) (pa_cons (pe_callB (BNQ.call_sortIt rfl hr.units) (by rfl) T.b_sorted (by decide +kernel) (pa_cons (pe_bm0 PySem.F.plainAttrs_dict PySem.F.slot_dict_items PySem.F.type_dict_items BNQ.mt_items (pv 5)) pa_nil)) pa_nil)) (pa_cons (pe_callTy call_tuple_of (by rfl) T.b_tuple (by decide +kernel) (pa_cons (pe_callB (BNQ.call_sortIt rfl hr.units) (by rfl) T.b_sorted (by decide +kernel) (pa_cons (pe_bm0 PySem.F.plainAttrs_dict PySem.F.slot_dict_items PySem.F.type_dict_items BNQ.mt_items (pv 2)) pa_nil)) pa_nil)) pa_nil)))) (pg_name (i := 7) sc_Looker_enter.nd rfl (Or.inl rfl)))
    (pss_one (ps_if (pt_cmpR (BNQ.op_notInMet hr.units) (pv 7) (pe_fld (pv 0) rfl) (by rfl)) (pss_cons (BNQ.ps_mput hr.units (pe_fld (pv 0) rfl) (pv 7) pe_bl rfl)
    (pss_cons (ps_for PassesOwn.never rfl (pi_tup (pe_ix ix_tup (pv 4) pe_int (fun _ _ => rfl))) (pg_name (i := 8) sc_Looker_enter.nd rfl (Or.inl rfl)) (pss_cons (ps_asg (C8.pe_c c_with_one hr (by omega) rfl (pa_cons (pv 5) (pa_cons (pv 8) (pa_cons (pv 3) pa_nil)))) (pg_name (i := 5) sc_Looker_enter.nd rfl (Or.inl rfl)))
    (pss_one (ps_asg (C8.pe_c c_with_one hr (by omega) rfl (pa_cons (pv 2) (pa_cons (pv 8) (pa_cons (pv 3) pa_nil)))) (pg_name (i := 2) sc_Looker_enter.nd rfl (Or.inl rfl))))))
    (pss_one (ps_expr (C8.pe_mt c_Looker_go hr (by omega) (pv 0) (pa_cons (pe_ix ix_tup (pv 4) pe_int (fun _ _ => rfl)) (pa_cons (pe_op op_add (pv 3) pe_int) (pa_cons (pv 5) (pa_cons (pv 2) (pa_cons (pv 6) pa_nil)))))))))) pss_nil))))
theorem ok_looked {f : Addr} {fd : FuncData}  (F : Fun K "looked" "looked" s_looked f fd) (T : Txt K w mg dP es n0 cChk cLkr)  (c_Looker : C8.Mak P w K mg base (1) "Looker" cLkr (spLkInit cLkr) []) (c_Looker_go : C8.Met P w K mg base (151) cLkr "go" (spGo K P w cLkr 130) []) : FnOk P w K mg base C8.CX0 (151 + 1) f fd ["program"] (spLooked K P w cLkr) := by
  refine F.ok sc_looked (fun vs H Q E h => by first | (obtain ⟨_, rfl, _⟩ := h; rfl) | (obtain ⟨_, _, rfl, _⟩ := h; rfl) | (obtain ⟨_, _, _, rfl, _⟩ := h; rfl) | (obtain ⟨_, _, _, _, rfl, _⟩ := h; rfl) | (obtain ⟨_, _, _, _, _, rfl, _⟩ := h; rfl) | (obtain ⟨_, _, _, _, _, _, rfl, _⟩ := h; rfl) | (obtain ⟨_, _, _, _, _, _, _, rfl, _⟩ := h; rfl) | (obtain ⟨_, _, _, _, _, _, _, _, rfl, _⟩ := h; rfl) | (obtain ⟨_, _, _, _, _, _, _, _, _, rfl, _⟩ := h; rfl) | (obtain ⟨_, _, _, _, _, _, _, _, _, _, rfl, _⟩ := h; rfl) | (obtain ⟨_, _, _, _, _, _, _, _, _, _, _, rfl, _⟩ := h; rfl) | (obtain ⟨_, _, _, _, _, _, _, _, _, _, _, _, rfl, _⟩ := h; rfl) | (obtain ⟨_, _, _, _, _, _, _, _, _, _, _, _, _, rfl, _⟩ := h; rfl) | (obtain ⟨_, _, _, _, _, _, _, _, _, _, _, _, _, _, rfl, _⟩ := h; rfl) | (obtain ⟨_, _, _, _, _, _, _, _, _, _, _, _, _, _, _, rfl, _⟩ := h; rfl) | (obtain ⟨_, _, _, _, _, _, _, _, _, _, _, _, _, _, _, _, rfl, _⟩ := h; rfl) | (obtain ⟨_, _, _, _, _, _, _, _, _, _, _, _, _, _, _, _, _, rfl, _⟩ := h; rfl) | (obtain ⟨_, _, _, _, _, _, _, _, _, _, _, _, _, _, _, _, _, _, rfl, _⟩ := h; rfl) | (obtain ⟨_, _, _, _, _, _, _, _, _, _, _, _, _, _, _, _, _, _, _, rfl, _⟩ := h; rfl) | (obtain ⟨_, _, _, _, _, _, _, _, _, _, _, _, _, _, _, _, _, _, _, _, rfl, _⟩ := h; rfl) | (obtain ⟨_, _, _, _, _, _, _, _, _, _, _, _, _, _, _, _, _, _, _, _, _, rfl, _⟩ := h; rfl) | (obtain ⟨_, _, _, _, _, _, _, _, _, _, _, _, _, _, _, _, _, _, _, _, _, _, rfl, _⟩ := h; rfl) | (obtain ⟨_, _, _, _, _, _, _, _, _, _, _, _, _, _, _, _, _, _, _, _, _, _, _, rfl, _⟩ := h; rfl) | (obtain ⟨_, _, _, _, _, _, _, _, _, _, _, _, _, _, _, _, _, _, _, _, _, _, _, _, rfl, _⟩ := h; rfl)) (fun cdv A outer s H vs Q E hr h => ⟨t_looked K P w cLkr, ?_, pure_looked vs H Q E h⟩)
  have hu := hu_of hr
  exact (pss_cons (ps_asg (pe_mk0 c_Looker hr (by omega) rfl) (pg_name (i := 1) sc_looked.nd rfl (Or.inl rfl)))
    (pss_cons (ps_asg (pe_callTy (call_dictP rfl) (by rfl) T.b_dict (by decide +kernel) (pa_cons (pe_lc (own := [("name", 3)]) (g := (gName 3)) (tt := tYes) (te := (tTup (tCons (tVar 3) (tCons (tC (.int (-1))) tNil)))) rfl sc_looked.nd (pi_tup (pe_ix ix_tup (pv 0) pe_int (fun _ _ => rfl))) (blkOk_by (N := ["program", "looker", "bound", "name"]) (sc := defScope s_looked) (by decide +kernel)) (fun _ _ _ _ _ => (pg_name (i := 3) sc_looked.nd rfl (Or.inl rfl))) (fun _ _ _ _ _ => pts_nil) (fun _ _ _ _ _ => (pe_tup (pa_cons (pv 3) (pa_cons (C8.pe_gc (by rfl) T.g_INPUTS) pa_nil))))) pa_nil)) (pg_name (i := 2) sc_looked.nd rfl (Or.inl rfl)))
    (pss_cons (ps_expr (C8.pe_mt c_Looker_go hr (by omega) (pv 1) (pa_cons (pe_ix ix_tup (pv 0) pe_int (fun _ _ => rfl)) (pa_cons pe_int (pa_cons (pv 2) (pa_cons (pv 2) (pa_cons pe_dnewK pa_nil)))))))
    (pss_one (ps_ret (pv 1))))))
theorem ok_binders {f : Addr} {fd : FuncData}  (F : Fun K "binders" "binders" s_binders f fd) (T : Txt K w mg dP es n0 cChk cLkr)  (c_check_program : C8.Cal P w K mg base (23) "check_program" (spCheckP K) []) (c_looked : C8.Cal P w K mg base (152) "looked" (spLooked K P w cLkr) []) : FnOk P w K mg base C8.CX0 (152 + 1) f fd ["program"] (spBinders K) := by
  refine F.ok sc_binders (fun vs H Q E h => by first | (obtain ⟨_, rfl, _⟩ := h; rfl) | (obtain ⟨_, _, rfl, _⟩ := h; rfl) | (obtain ⟨_, _, _, rfl, _⟩ := h; rfl) | (obtain ⟨_, _, _, _, rfl, _⟩ := h; rfl) | (obtain ⟨_, _, _, _, _, rfl, _⟩ := h; rfl) | (obtain ⟨_, _, _, _, _, _, rfl, _⟩ := h; rfl) | (obtain ⟨_, _, _, _, _, _, _, rfl, _⟩ := h; rfl) | (obtain ⟨_, _, _, _, _, _, _, _, rfl, _⟩ := h; rfl) | (obtain ⟨_, _, _, _, _, _, _, _, _, rfl, _⟩ := h; rfl) | (obtain ⟨_, _, _, _, _, _, _, _, _, _, rfl, _⟩ := h; rfl) | (obtain ⟨_, _, _, _, _, _, _, _, _, _, _, rfl, _⟩ := h; rfl) | (obtain ⟨_, _, _, _, _, _, _, _, _, _, _, _, rfl, _⟩ := h; rfl) | (obtain ⟨_, _, _, _, _, _, _, _, _, _, _, _, _, rfl, _⟩ := h; rfl) | (obtain ⟨_, _, _, _, _, _, _, _, _, _, _, _, _, _, rfl, _⟩ := h; rfl) | (obtain ⟨_, _, _, _, _, _, _, _, _, _, _, _, _, _, _, rfl, _⟩ := h; rfl) | (obtain ⟨_, _, _, _, _, _, _, _, _, _, _, _, _, _, _, _, rfl, _⟩ := h; rfl) | (obtain ⟨_, _, _, _, _, _, _, _, _, _, _, _, _, _, _, _, _, rfl, _⟩ := h; rfl) | (obtain ⟨_, _, _, _, _, _, _, _, _, _, _, _, _, _, _, _, _, _, rfl, _⟩ := h; rfl) | (obtain ⟨_, _, _, _, _, _, _, _, _, _, _, _, _, _, _, _, _, _, _, rfl, _⟩ := h; rfl) | (obtain ⟨_, _, _, _, _, _, _, _, _, _, _, _, _, _, _, _, _, _, _, _, rfl, _⟩ := h; rfl) | (obtain ⟨_, _, _, _, _, _, _, _, _, _, _, _, _, _, _, _, _, _, _, _, _, rfl, _⟩ := h; rfl) | (obtain ⟨_, _, _, _, _, _, _, _, _, _, _, _, _, _, _, _, _, _, _, _, _, _, rfl, _⟩ := h; rfl) | (obtain ⟨_, _, _, _, _, _, _, _, _, _, _, _, _, _, _, _, _, _, _, _, _, _, _, rfl, _⟩ := h; rfl) | (obtain ⟨_, _, _, _, _, _, _, _, _, _, _, _, _, _, _, _, _, _, _, _, _, _, _, _, rfl, _⟩ := h; rfl)) (fun cdv A outer s H vs Q E hr h => ⟨t_binders K P w cLkr, ?_, pure_binders T.lkr vs H Q E h⟩)
  have hu := hu_of hr
  exact (pss_cons (ps_expr (C8.pe_c c_check_program hr (by omega) rfl (pa_cons (pv 0) pa_nil)))
    (pss_cons (ps_asg (C8.pe_c c_looked hr (by omega) rfl (pa_cons (pv 0) pa_nil)) (pg_name (i := 1) sc_binders.nd rfl (Or.inr rfl)))
    (pss_one (ps_ret (pe_lc (own := [("number", 2)]) (g := (gName 2)) (tt := tYes) (te := (tTup (tCons (tVar 2) (tCons (tDGet (tFld K (tVar 1) "near") (tVar 2)) (tCons (tCB (rTupSq K) (tCons (tDGet (tFld K (tVar 1) "may") (tVar 2)) tNil)) tNil))))) rfl sc_binders.nd (pi_list (pe_callB (BNQ.call_sortDI rfl hr.units) (by rfl) T.b_sorted (by decide +kernel) (pa_cons (pe_fld (pv 1) rfl) pa_nil))) (blkOk_by (N := ["program", "looker", "number"]) (sc := defScope s_binders) (by decide +kernel)) (fun _ _ _ _ _ => (pg_name (i := 2) sc_binders.nd rfl (Or.inl rfl))) (fun _ _ _ _ _ => pts_nil) (fun _ _ _ _ _ => (pe_tup (pa_cons (pv 2) (pa_cons (pe_dget hu (pe_fld (pv 1) rfl) (pv 2) (fun _ _ => rfl)) (pa_cons (pe_callTy call_tuple_of (by rfl) T.b_tuple (by decide +kernel) (pa_cons (pe_dget hu (pe_fld (pv 1) rfl) (pv 2) (fun _ _ => rfl)) pa_nil)) pa_nil))))))))))
theorem ok_is_alike {f : Addr} {fd : FuncData}  (F : Fun K "is_alike" "is_alike" s_is_alike f fd) (T : Txt K w mg dP es n0 cChk cLkr)  (c_binders : C8.Cal P w K mg base (153) "binders" (spBinders K) []) : FnOk P w K mg base C8.CX0 (153 + 1) f fd ["program"] (spIsAlike K) := by
  refine F.ok sc_is_alike (fun vs H Q E h => by first | (obtain ⟨_, rfl, _⟩ := h; rfl) | (obtain ⟨_, _, rfl, _⟩ := h; rfl) | (obtain ⟨_, _, _, rfl, _⟩ := h; rfl) | (obtain ⟨_, _, _, _, rfl, _⟩ := h; rfl) | (obtain ⟨_, _, _, _, _, rfl, _⟩ := h; rfl) | (obtain ⟨_, _, _, _, _, _, rfl, _⟩ := h; rfl) | (obtain ⟨_, _, _, _, _, _, _, rfl, _⟩ := h; rfl) | (obtain ⟨_, _, _, _, _, _, _, _, rfl, _⟩ := h; rfl) | (obtain ⟨_, _, _, _, _, _, _, _, _, rfl, _⟩ := h; rfl) | (obtain ⟨_, _, _, _, _, _, _, _, _, _, rfl, _⟩ := h; rfl) | (obtain ⟨_, _, _, _, _, _, _, _, _, _, _, rfl, _⟩ := h; rfl) | (obtain ⟨_, _, _, _, _, _, _, _, _, _, _, _, rfl, _⟩ := h; rfl) | (obtain ⟨_, _, _, _, _, _, _, _, _, _, _, _, _, rfl, _⟩ := h; rfl) | (obtain ⟨_, _, _, _, _, _, _, _, _, _, _, _, _, _, rfl, _⟩ := h; rfl) | (obtain ⟨_, _, _, _, _, _, _, _, _, _, _, _, _, _, _, rfl, _⟩ := h; rfl) | (obtain ⟨_, _, _, _, _, _, _, _, _, _, _, _, _, _, _, _, rfl, _⟩ := h; rfl) | (obtain ⟨_, _, _, _, _, _, _, _, _, _, _, _, _, _, _, _, _, rfl, _⟩ := h; rfl) | (obtain ⟨_, _, _, _, _, _, _, _, _, _, _, _, _, _, _, _, _, _, rfl, _⟩ := h; rfl) | (obtain ⟨_, _, _, _, _, _, _, _, _, _, _, _, _, _, _, _, _, _, _, rfl, _⟩ := h; rfl) | (obtain ⟨_, _, _, _, _, _, _, _, _, _, _, _, _, _, _, _, _, _, _, _, rfl, _⟩ := h; rfl) | (obtain ⟨_, _, _, _, _, _, _, _, _, _, _, _, _, _, _, _, _, _, _, _, _, rfl, _⟩ := h; rfl) | (obtain ⟨_, _, _, _, _, _, _, _, _, _, _, _, _, _, _, _, _, _, _, _, _, _, rfl, _⟩ := h; rfl) | (obtain ⟨_, _, _, _, _, _, _, _, _, _, _, _, _, _, _, _, _, _, _, _, _, _, _, rfl, _⟩ := h; rfl) | (obtain ⟨_, _, _, _, _, _, _, _, _, _, _, _, _, _, _, _, _, _, _, _, _, _, _, _, rfl, _⟩ := h; rfl)) (fun cdv A outer s H vs Q E hr h => ⟨t_isalike K, ?_, pure_isalike vs H Q E h⟩)
  have hu := hu_of hr
  exact (pss_one (ps_ret (pe_cmpR (op_eqD hr.units) (pe_lc (own := [("row", 1)]) (g := (gName 1)) (tt := (tTest (tOp (rNeD K) (tOp (rIxT K) (tVar 1) (tC (.int 2))) (tTup (tCons (tOp (rIxT K) (tVar 1) (tC (.int 1))) tNil))))) (te := (tVar 1)) rfl sc_is_alike.nd (pi_list (C8.pe_c c_binders hr (by omega) rfl (pa_cons (pv 0) pa_nil))) (blkOk_by (N := ["program", "row"]) (sc := defScope s_is_alike) (by decide +kernel)) (fun _ _ _ _ _ => (pg_name (i := 1) sc_is_alike.nd rfl (Or.inl rfl))) (fun _ _ _ _ _ => (pts_one (pt_cmpR (op_neD hr.units) (pe_ix ix_tup (pv 1) pe_int (fun _ _ => rfl)) (pe_tup (pa_cons (pe_ix ix_tup (pv 1) pe_int (fun _ _ => rfl)) pa_nil)) (nomark _)))) (fun _ _ _ _ _ => (pv 1))) (pe_lst pa_nil) (nomark _))))
theorem ok_law_with {f : Addr} {fd : FuncData}  (F : Fun K "_law_with" "_law_with" s__law_with f fd) (T : Txt K w mg dP es n0 cChk cLkr)   : FnOk P w K mg base C8.CX0 (0 + 1) f fd ["_law_bound", "_law_names", "_law_number"] (spLWith K) := by
  refine F.ok sc__law_with (fun vs H Q E h => by first | (obtain ⟨_, rfl, _⟩ := h; rfl) | (obtain ⟨_, _, rfl, _⟩ := h; rfl) | (obtain ⟨_, _, _, rfl, _⟩ := h; rfl) | (obtain ⟨_, _, _, _, rfl, _⟩ := h; rfl) | (obtain ⟨_, _, _, _, _, rfl, _⟩ := h; rfl) | (obtain ⟨_, _, _, _, _, _, rfl, _⟩ := h; rfl) | (obtain ⟨_, _, _, _, _, _, _, rfl, _⟩ := h; rfl) | (obtain ⟨_, _, _, _, _, _, _, _, rfl, _⟩ := h; rfl) | (obtain ⟨_, _, _, _, _, _, _, _, _, rfl, _⟩ := h; rfl) | (obtain ⟨_, _, _, _, _, _, _, _, _, _, rfl, _⟩ := h; rfl) | (obtain ⟨_, _, _, _, _, _, _, _, _, _, _, rfl, _⟩ := h; rfl) | (obtain ⟨_, _, _, _, _, _, _, _, _, _, _, _, rfl, _⟩ := h; rfl) | (obtain ⟨_, _, _, _, _, _, _, _, _, _, _, _, _, rfl, _⟩ := h; rfl) | (obtain ⟨_, _, _, _, _, _, _, _, _, _, _, _, _, _, rfl, _⟩ := h; rfl) | (obtain ⟨_, _, _, _, _, _, _, _, _, _, _, _, _, _, _, rfl, _⟩ := h; rfl) | (obtain ⟨_, _, _, _, _, _, _, _, _, _, _, _, _, _, _, _, rfl, _⟩ := h; rfl) | (obtain ⟨_, _, _, _, _, _, _, _, _, _, _, _, _, _, _, _, _, rfl, _⟩ := h; rfl) | (obtain ⟨_, _, _, _, _, _, _, _, _, _, _, _, _, _, _, _, _, _, rfl, _⟩ := h; rfl) | (obtain ⟨_, _, _, _, _, _, _, _, _, _, _, _, _, _, _, _, _, _, _, rfl, _⟩ := h; rfl) | (obtain ⟨_, _, _, _, _, _, _, _, _, _, _, _, _, _, _, _, _, _, _, _, rfl, _⟩ := h; rfl) | (obtain ⟨_, _, _, _, _, _, _, _, _, _, _, _, _, _, _, _, _, _, _, _, _, rfl, _⟩ := h; rfl) | (obtain ⟨_, _, _, _, _, _, _, _, _, _, _, _, _, _, _, _, _, _, _, _, _, _, rfl, _⟩ := h; rfl) | (obtain ⟨_, _, _, _, _, _, _, _, _, _, _, _, _, _, _, _, _, _, _, _, _, _, _, rfl, _⟩ := h; rfl) | (obtain ⟨_, _, _, _, _, _, _, _, _, _, _, _, _, _, _, _, _, _, _, _, _, _, _, _, rfl, _⟩ := h; rfl)) (fun cdv A outer s H vs Q E hr h => ⟨t_lwith K, ?_, pure_lwith vs H Q E h⟩)
  have hu := hu_of hr
  exact (pss_cons (ps_asg (pe_callTy call_dictD (by rfl) T.b_dict (by decide +kernel) (pa_cons (pv 0) pa_nil)) (pg_name (i := 3) sc__law_with.nd rfl (Or.inl rfl)))
    (pss_cons (ps_for PassesOwn.never rfl (pi_lt (pv 1)) (pg_name (i := 4) sc__law_with.nd rfl (Or.inl rfl)) (pss_one (ps_dput hu (pv 3) (pv 4) (pv 2) rfl)))
    (pss_one (ps_ret (pv 3)))))
theorem ok_law_see {f : Addr} {fd : FuncData} {n : Nat} (F : Fun K "_law_see" "_law_see" s__law_see f fd) (T : Txt K w mg dP es n0 cChk cLkr)  (c_law_see : C8.Cal P w K mg base (n + 21) "_law_see" (spLSee K n) []) (c_law_with : C8.Cal P w K mg base (1) "_law_with" (spLWith K) []) (c_law_size : C8.Cal P w K mg base (21) "_law_size" (spSize K 20) []) (c_law_inner : C8.Cal P w K mg base (1) "_law_inner" (spInner K) []) : FnOk P w K mg base C8.CX0 ((n + 21) + 1) f fd ["_law_part_here", "_law_number", "_law_bounds", "_law_funs", "_law_table"] (spLSee K (n + 1)) := by
  refine F.ok sc__law_see (fun vs H Q E h => by first | (obtain ⟨_, rfl, _⟩ := h; rfl) | (obtain ⟨_, _, rfl, _⟩ := h; rfl) | (obtain ⟨_, _, _, rfl, _⟩ := h; rfl) | (obtain ⟨_, _, _, _, rfl, _⟩ := h; rfl) | (obtain ⟨_, _, _, _, _, rfl, _⟩ := h; rfl) | (obtain ⟨_, _, _, _, _, _, rfl, _⟩ := h; rfl) | (obtain ⟨_, _, _, _, _, _, _, rfl, _⟩ := h; rfl) | (obtain ⟨_, _, _, _, _, _, _, _, rfl, _⟩ := h; rfl) | (obtain ⟨_, _, _, _, _, _, _, _, _, rfl, _⟩ := h; rfl) | (obtain ⟨_, _, _, _, _, _, _, _, _, _, rfl, _⟩ := h; rfl) | (obtain ⟨_, _, _, _, _, _, _, _, _, _, _, rfl, _⟩ := h; rfl) | (obtain ⟨_, _, _, _, _, _, _, _, _, _, _, _, rfl, _⟩ := h; rfl) | (obtain ⟨_, _, _, _, _, _, _, _, _, _, _, _, _, rfl, _⟩ := h; rfl) | (obtain ⟨_, _, _, _, _, _, _, _, _, _, _, _, _, _, rfl, _⟩ := h; rfl) | (obtain ⟨_, _, _, _, _, _, _, _, _, _, _, _, _, _, _, rfl, _⟩ := h; rfl) | (obtain ⟨_, _, _, _, _, _, _, _, _, _, _, _, _, _, _, _, rfl, _⟩ := h; rfl) | (obtain ⟨_, _, _, _, _, _, _, _, _, _, _, _, _, _, _, _, _, rfl, _⟩ := h; rfl) | (obtain ⟨_, _, _, _, _, _, _, _, _, _, _, _, _, _, _, _, _, _, rfl, _⟩ := h; rfl) | (obtain ⟨_, _, _, _, _, _, _, _, _, _, _, _, _, _, _, _, _, _, _, rfl, _⟩ := h; rfl) | (obtain ⟨_, _, _, _, _, _, _, _, _, _, _, _, _, _, _, _, _, _, _, _, rfl, _⟩ := h; rfl) | (obtain ⟨_, _, _, _, _, _, _, _, _, _, _, _, _, _, _, _, _, _, _, _, _, rfl, _⟩ := h; rfl) | (obtain ⟨_, _, _, _, _, _, _, _, _, _, _, _, _, _, _, _, _, _, _, _, _, _, rfl, _⟩ := h; rfl) | (obtain ⟨_, _, _, _, _, _, _, _, _, _, _, _, _, _, _, _, _, _, _, _, _, _, _, rfl, _⟩ := h; rfl) | (obtain ⟨_, _, _, _, _, _, _, _, _, _, _, _, _, _, _, _, _, _, _, _, _, _, _, _, rfl, _⟩ := h; rfl)) (fun cdv A outer s H vs Q E hr h => ⟨t_lsee K n, ?_, pure_lsee vs H Q E h⟩)
  have hu := hu_of hr
  exact (pss_cons (ps_asg (pe_ix ix_tup (pv 0) pe_int (fun _ _ => rfl)) (pg_name (i := 5) sc__law_see.nd rfl (Or.inl rfl)))
    (pss_cons (ps_asg (C8.pe_c c_law_inner hr (by omega) rfl (pa_cons (pv 0) pa_nil)) (pg_name (i := 6) sc__law_see.nd rfl (Or.inl rfl)))
    (pss_cons (ps_asg (pe_lst (pa_cons (pe_op op_add (pv 1) pe_int) pa_nil)) (pg_name (i := 7) sc__law_see.nd rfl (Or.inl rfl)))
    (pss_cons (ps_for PassesOwn.never rfl (pi_list (pv 6)) (pg_name (i := 8) sc__law_see.nd rfl (Or.inl rfl)) (pss_one (ps_expr (pe_bm PySem.F.plainAttrs_list PySem.F.slot_list_append PySem.F.type_list_append mt_append (pv 7) (pa_cons (pe_op op_add (pe_ix ix_list (pv 7) (pe_un un_neg pe_int) (fun _ _ => rfl)) (C8.pe_c c_law_size hr (by omega) rfl (pa_cons (pv 8) pa_nil))) pa_nil)))))
    (pss_cons (ps_if (pt_cmpR op_eq (pv 5) pe_str (nomark _)) (pss_one (ps_expr (pe_bm PySem.F.plainAttrs_list PySem.F.slot_list_append PySem.F.type_list_append mt_append (pe_dsetd (pv 4) (pv 1) (pe_lst pa_nil) ⟨rfl, rfl, rfl, rfl⟩) (pa_cons (pe_tup (pa_cons (pe_dget hu (pe_ix ix_tup (pv 2) pe_int (fun _ _ => rfl)) (pe_ix ix_tup (pv 0) pe_int (fun _ _ => rfl)) (fun _ _ => rfl)) (pa_cons (pe_dget hu (pe_ix ix_tup (pv 2) pe_int (fun _ _ => rfl)) (pe_ix ix_tup (pv 0) pe_int (fun _ _ => rfl)) (fun _ _ => rfl)) pa_nil))) pa_nil)))) pss_nil)
    (pss_cons (ps_if (pt_cmpR op_eq (pv 5) pe_str (nomark _)) (pss_cons (ps_expr (C8.pe_c c_law_see hr (by omega) rfl (pa_cons (pe_ix ix_list (pv 6) pe_int (fun _ _ => rfl)) (pa_cons (pe_ix ix_list (pv 7) pe_int (fun _ _ => rfl)) (pa_cons (pv 2) (pa_cons (pv 3) (pa_cons (pv 4) pa_nil)))))))
    (pss_cons (ps_asg (pe_tup (pa_cons (C8.pe_c c_law_with hr (by omega) rfl (pa_cons (pe_ix ix_tup (pv 2) pe_int (fun _ _ => rfl)) (pa_cons (pe_lst (pa_cons (pe_ix ix_tup (pv 0) pe_int (fun _ _ => rfl)) pa_nil)) (pa_cons (pv 1) pa_nil)))) (pa_cons (C8.pe_c c_law_with hr (by omega) rfl (pa_cons (pe_ix ix_tup (pv 2) pe_int (fun _ _ => rfl)) (pa_cons (pe_lst (pa_cons (pe_ix ix_tup (pv 0) pe_int (fun _ _ => rfl)) pa_nil)) (pa_cons (pv 1) pa_nil)))) pa_nil))) (pg_name (i := 9) sc__law_see.nd rfl (Or.inl rfl)))
    (pss_one (ps_expr (C8.pe_c c_law_see hr (by omega) rfl (pa_cons (pe_ix ix_list (pv 6) pe_int (fun _ _ => rfl)) (pa_cons (pe_ix ix_list (pv 7) pe_int (fun _ _ => rfl)) (pa_cons (pv 9) (pa_cons (pv 3) (pa_cons (pv 4) pa_nil)))))))))) (pss_one (ps_if (pt_cmpR op_eq (pv 5) pe_str (nomark _)) (pss_cons (ps_asg (pe_callTy call_dictD (by rfl) T.b_dict (by decide +kernel) (pa_cons (pv 3) pa_nil)) (pg_name (i := 10) sc__law_see.nd rfl (Or.inl rfl)))
    (pss_cons (ps_dput hu (pv 10) (pe_ix ix_tup (pv 0) pe_int (fun _ _ => rfl)) (pe_tup (pa_cons (pv 1) (pa_cons (pv 0) (pa_cons (pe_ix ix_tup (pv 2) pe_int (fun _ _ => rfl)) (pa_cons (pv 3) pa_nil))))) rfl)
    (pss_one (ps_expr (C8.pe_c c_law_see hr (by omega) rfl (pa_cons (pe_ix ix_list (pv 6) pe_int (fun _ _ => rfl)) (pa_cons (pe_ix ix_list (pv 7) pe_int (fun _ _ => rfl)) (pa_cons (pv 2) (pa_cons (pv 10) (pa_cons (pv 4) pa_nil)))))))))) (pss_one (ps_for PassesOwn.never rfl (pi_range1 rfl T.b_range (pa_cons (pe_callB call_len_seq (by rfl) T.b_len (by decide +kernel) (pa_cons (pv 6) pa_nil)) pa_nil)) (pg_name (i := 11) sc__law_see.nd rfl (Or.inl rfl)) (pss_one (ps_expr (C8.pe_c c_law_see hr (by omega) rfl (pa_cons (pe_ix ix_list (pv 6) (pv 11) (fun _ _ => rfl)) (pa_cons (pe_ix ix_list (pv 7) (pv 11) (fun _ _ => rfl)) (pa_cons (pv 2) (pa_cons (pv 3) (pa_cons (pv 4) pa_nil)))))))))))))
    (pss_one (ps_if (pt_cmpR op_eq (pv 5) pe_str (nomark _)) (pss_cons (ps_asg (pe_dget hu (pv 3) (pe_ix ix_tup (pv 0) pe_int (fun _ _ => rfl)) (fun _ _ => rfl)) (pg_tup (by rfl) (pgs_cons (pg_name (i := 12) sc__law_see.nd rfl (Or.inl rfl)) (pgs_cons (pg_name (i := 13) sc__law_see.nd rfl (Or.inl rfl)) (pgs_cons (pg_name (i := 14) sc__law_see.nd rfl (Or.inl rfl)) (pgs_cons (pg_name (i := 10) sc__law_see.nd rfl (Or.inl rfl)) pgs_nil))))))
    (pss_cons (ps_asg (pe_tup (pa_cons (C8.pe_c c_law_with hr (by omega) rfl (pa_cons (pv 14) (pa_cons (pe_ix ix_tup (pv 13) pe_int (fun _ _ => rfl)) (pa_cons (pv 12) pa_nil)))) (pa_cons (C8.pe_c c_law_with hr (by omega) rfl (pa_cons (pe_ix ix_tup (pv 2) pe_int (fun _ _ => rfl)) (pa_cons (pe_ix ix_tup (pv 13) pe_int (fun _ _ => rfl)) (pa_cons (pv 12) pa_nil)))) pa_nil))) (pg_name (i := 9) sc__law_see.nd rfl (Or.inl rfl)))
    (pss_one (ps_expr (C8.pe_c c_law_see hr (by omega) rfl (pa_cons (pe_ix ix_tup (pv 13) pe_int (fun _ _ => rfl)) (pa_cons (pe_op op_add (pv 12) pe_int) (pa_cons (pv 9) (pa_cons (pv 10) (pa_cons (pv 4) pa_nil)))))))))) pss_nil))))))))
theorem ok_law_binders {f : Addr} {fd : FuncData}  (F : Fun K "_law_binders" "_law_binders" s__law_binders f fd) (T : Txt K w mg dP es n0 cChk cLkr)  (c_law_see : C8.Cal P w K mg base (151) "_law_see" (spLSee K 130) []) : FnOk P w K mg base C8.CX0 (151 + 1) f fd ["_law_program_here"] (spLBinders K) := by
  refine F.ok sc__law_binders (fun vs H Q E h => by first | (obtain ⟨_, rfl, _⟩ := h; rfl) | (obtain ⟨_, _, rfl, _⟩ := h; rfl) | (obtain ⟨_, _, _, rfl, _⟩ := h; rfl) | (obtain ⟨_, _, _, _, rfl, _⟩ := h; rfl) | (obtain ⟨_, _, _, _, _, rfl, _⟩ := h; rfl) | (obtain ⟨_, _, _, _, _, _, rfl, _⟩ := h; rfl) | (obtain ⟨_, _, _, _, _, _, _, rfl, _⟩ := h; rfl) | (obtain ⟨_, _, _, _, _, _, _, _, rfl, _⟩ := h; rfl) | (obtain ⟨_, _, _, _, _, _, _, _, _, rfl, _⟩ := h; rfl) | (obtain ⟨_, _, _, _, _, _, _, _, _, _, rfl, _⟩ := h; rfl) | (obtain ⟨_, _, _, _, _, _, _, _, _, _, _, rfl, _⟩ := h; rfl) | (obtain ⟨_, _, _, _, _, _, _, _, _, _, _, _, rfl, _⟩ := h; rfl) | (obtain ⟨_, _, _, _, _, _, _, _, _, _, _, _, _, rfl, _⟩ := h; rfl) | (obtain ⟨_, _, _, _, _, _, _, _, _, _, _, _, _, _, rfl, _⟩ := h; rfl) | (obtain ⟨_, _, _, _, _, _, _, _, _, _, _, _, _, _, _, rfl, _⟩ := h; rfl) | (obtain ⟨_, _, _, _, _, _, _, _, _, _, _, _, _, _, _, _, rfl, _⟩ := h; rfl) | (obtain ⟨_, _, _, _, _, _, _, _, _, _, _, _, _, _, _, _, _, rfl, _⟩ := h; rfl) | (obtain ⟨_, _, _, _, _, _, _, _, _, _, _, _, _, _, _, _, _, _, rfl, _⟩ := h; rfl) | (obtain ⟨_, _, _, _, _, _, _, _, _, _, _, _, _, _, _, _, _, _, _, rfl, _⟩ := h; rfl) | (obtain ⟨_, _, _, _, _, _, _, _, _, _, _, _, _, _, _, _, _, _, _, _, rfl, _⟩ := h; rfl) | (obtain ⟨_, _, _, _, _, _, _, _, _, _, _, _, _, _, _, _, _, _, _, _, _, rfl, _⟩ := h; rfl) | (obtain ⟨_, _, _, _, _, _, _, _, _, _, _, _, _, _, _, _, _, _, _, _, _, _, rfl, _⟩ := h; rfl) | (obtain ⟨_, _, _, _, _, _, _, _, _, _, _, _, _, _, _, _, _, _, _, _, _, _, _, rfl, _⟩ := h; rfl) | (obtain ⟨_, _, _, _, _, _, _, _, _, _, _, _, _, _, _, _, _, _, _, _, _, _, _, _, rfl, _⟩ := h; rfl)) (fun cdv A outer s H vs Q E hr h => ⟨t_lbinders K P w, ?_, pure_lbinders vs H Q E h⟩)
  have hu := hu_of hr
  exact (pss_cons (ps_asg (pe_callTy (call_dictP rfl) (by rfl) T.b_dict (by decide +kernel) (pa_cons (pe_lc (own := [("_law_name", 5)]) (g := (gName 5)) (tt := tYes) (te := (tTup (tCons (tVar 5) (tCons (tUn oNeg (tC (.int 1))) tNil)))) rfl sc__law_binders.nd (pi_tup (pe_ix ix_tup (pv 0) pe_int (fun _ _ => rfl))) (blkOk_by (N := ["_law_program_here", "_law_first", "_law_table", "_law_found", "_law_number", "_law_name", "_law_pair"]) (sc := defScope s__law_binders) (by decide +kernel)) (fun _ _ _ _ _ => (pg_name (i := 5) sc__law_binders.nd rfl (Or.inl rfl))) (fun _ _ _ _ _ => pts_nil) (fun _ _ _ _ _ => (pe_tup (pa_cons (pv 5) (pa_cons (pe_un un_neg pe_int) pa_nil))))) pa_nil)) (pg_name (i := 1) sc__law_binders.nd rfl (Or.inl rfl)))
    (pss_cons (ps_asg pe_dnewK (pg_name (i := 2) sc__law_binders.nd rfl (Or.inl rfl)))
    (pss_cons (ps_expr (C8.pe_c c_law_see hr (by omega) rfl (pa_cons (pe_ix ix_tup (pv 0) pe_int (fun _ _ => rfl)) (pa_cons pe_int (pa_cons (pe_tup (pa_cons (pv 1) (pa_cons (pv 1) pa_nil))) (pa_cons pe_dnewK (pa_cons (pv 2) pa_nil)))))))
    (pss_cons (ps_asg (pe_lst pa_nil) (pg_name (i := 3) sc__law_binders.nd rfl (Or.inl rfl)))
    (pss_cons (ps_for PassesOwn.never rfl (pi_list (pe_callB (BNQ.call_sortDI rfl hr.units) (by rfl) T.b_sorted (by decide +kernel) (pa_cons (pv 2) pa_nil))) (pg_name (i := 4) sc__law_binders.nd rfl (Or.inl rfl)) (pss_one (ps_expr (pe_bm PySem.F.plainAttrs_list PySem.F.slot_list_append PySem.F.type_list_append mt_append (pv 3) (pa_cons (pe_tup (pa_cons (pv 4) (pa_cons (pe_ix ix_tup (pe_ix ix_list (pe_dget hu (pv 2) (pv 4) (fun _ _ => rfl)) pe_int (fun _ _ => rfl)) pe_int (fun _ _ => rfl)) (pa_cons (pe_callTy call_tuple_of (by rfl) T.b_tuple (by decide +kernel) (pa_cons (pe_callB (BNQ.call_sortSI rfl hr.units) (by rfl) T.b_sorted (by decide +kernel) (pa_cons (pe_callTy (BNS.cr_setI2 rfl) (by rfl) T.b_set (by decide +kernel) (pa_cons (pe_lc (own := [("_law_pair", 6)]) (g := (gName 6)) (tt := tYes) (te := (tOp (rIxT K) (tVar 6) (tC (.int 1)))) rfl sc__law_binders.nd (pi_list (pe_dget hu (pv 2) (pv 4) (fun _ _ => rfl))) (blkOk_by (N := ["_law_program_here", "_law_first", "_law_table", "_law_found", "_law_number", "_law_name", "_law_pair"]) (sc := defScope s__law_binders) (by decide +kernel)) (fun _ _ _ _ _ => (pg_name (i := 6) sc__law_binders.nd rfl (Or.inl rfl))) (fun _ _ _ _ _ => pts_nil) (fun _ _ _ _ _ => (pe_ix ix_tup (pv 6) pe_int (fun _ _ => rfl)))) pa_nil)) pa_nil)) pa_nil)) pa_nil)))) pa_nil)))))
    (pss_one (ps_ret (pv 3))))))))
theorem ok_law {f : Addr} {fd : FuncData}  (F : Fun K "law" "law" s_law f fd) (T : Txt K w mg dP es n0 cChk cLkr)  (c_law_begun : C8.Cal P w K mg base (1) "_law_begun" (spBegun K) []) (c_law_program : C8.Cal P w K mg base (24) "_law_program" (spProgram K) []) (c_law_binders : C8.Cal P w K mg base (152) "_law_binders" (spLBinders K) []) (c_binders : C8.Cal P w K mg base (153) "binders" (spBinders K) []) (c_is_alike : C8.Cal P w K mg base (154) "is_alike" (spIsAlike K) []) (c_law_alike : C8.Cal P w K mg base (5) "_law_alike" (spAlike K 5) []) : FnOk P w K mg base C8.CX0 (154 + 1) f fd ["_law_script"] (spLaw K) := by
  refine F.ok sc_law (fun vs H Q E h => by first | (obtain ⟨_, rfl, _⟩ := h; rfl) | (obtain ⟨_, _, rfl, _⟩ := h; rfl) | (obtain ⟨_, _, _, rfl, _⟩ := h; rfl) | (obtain ⟨_, _, _, _, rfl, _⟩ := h; rfl) | (obtain ⟨_, _, _, _, _, rfl, _⟩ := h; rfl) | (obtain ⟨_, _, _, _, _, _, rfl, _⟩ := h; rfl) | (obtain ⟨_, _, _, _, _, _, _, rfl, _⟩ := h; rfl) | (obtain ⟨_, _, _, _, _, _, _, _, rfl, _⟩ := h; rfl) | (obtain ⟨_, _, _, _, _, _, _, _, _, rfl, _⟩ := h; rfl) | (obtain ⟨_, _, _, _, _, _, _, _, _, _, rfl, _⟩ := h; rfl) | (obtain ⟨_, _, _, _, _, _, _, _, _, _, _, rfl, _⟩ := h; rfl) | (obtain ⟨_, _, _, _, _, _, _, _, _, _, _, _, rfl, _⟩ := h; rfl) | (obtain ⟨_, _, _, _, _, _, _, _, _, _, _, _, _, rfl, _⟩ := h; rfl) | (obtain ⟨_, _, _, _, _, _, _, _, _, _, _, _, _, _, rfl, _⟩ := h; rfl) | (obtain ⟨_, _, _, _, _, _, _, _, _, _, _, _, _, _, _, rfl, _⟩ := h; rfl) | (obtain ⟨_, _, _, _, _, _, _, _, _, _, _, _, _, _, _, _, rfl, _⟩ := h; rfl) | (obtain ⟨_, _, _, _, _, _, _, _, _, _, _, _, _, _, _, _, _, rfl, _⟩ := h; rfl) | (obtain ⟨_, _, _, _, _, _, _, _, _, _, _, _, _, _, _, _, _, _, rfl, _⟩ := h; rfl) | (obtain ⟨_, _, _, _, _, _, _, _, _, _, _, _, _, _, _, _, _, _, _, rfl, _⟩ := h; rfl) | (obtain ⟨_, _, _, _, _, _, _, _, _, _, _, _, _, _, _, _, _, _, _, _, rfl, _⟩ := h; rfl) | (obtain ⟨_, _, _, _, _, _, _, _, _, _, _, _, _, _, _, _, _, _, _, _, _, rfl, _⟩ := h; rfl) | (obtain ⟨_, _, _, _, _, _, _, _, _, _, _, _, _, _, _, _, _, _, _, _, _, _, rfl, _⟩ := h; rfl) | (obtain ⟨_, _, _, _, _, _, _, _, _, _, _, _, _, _, _, _, _, _, _, _, _, _, _, rfl, _⟩ := h; rfl) | (obtain ⟨_, _, _, _, _, _, _, _, _, _, _, _, _, _, _, _, _, _, _, _, _, _, _, _, rfl, _⟩ := h; rfl)) (fun cdv A outer s H vs Q E hr h => ⟨t_law8 K, ?_, pure_law8 vs H Q E h⟩)
  have hu := hu_of hr
  exact (pss_cons (ps_asg (C8.pe_c c_law_begun hr (by omega) rfl (pa_cons (pv 0) pa_nil)) (pg_name (i := 1) sc_law.nd rfl (Or.inl rfl)))
    (pss_cons (ps_for PassesOwn.never rfl (pi_range1 rfl T.b_range (pa_cons pe_int pa_nil)) (pg_name (i := 2) sc_law.nd rfl (Or.inl rfl)) (pss_cons (ps_asg (C8.pe_c c_law_program hr (by omega) rfl (pa_cons (pv 1) (pa_cons (pe_op op_sub pe_int (pv 2)) pa_nil))) (pg_name (i := 3) sc_law.nd rfl (Or.inl rfl)))
    (pss_cons (ps_asg (C8.pe_c c_law_binders hr (by omega) rfl (pa_cons (pv 3) pa_nil)) (pg_name (i := 4) sc_law.nd rfl (Or.inl rfl)))
    (pss_cons (ps_for PassesOwn.never rfl (pi_range1 rfl T.b_range (pa_cons pe_int pa_nil)) (pg_name (i := 5) sc_law.nd rfl (Or.inl rfl)) (pss_cons (ps_asg (C8.pe_c c_binders hr (by omega) rfl (pa_cons (pv 3) pa_nil)) (pg_name (i := 6) sc_law.nd rfl (Or.inl rfl)))
    (pss_cons (ps_if (pt_not (pt_val (C8.pe_c c_law_alike hr (by omega) rfl (pa_cons (pv 6) (pa_cons (pv 4) pa_nil))) (by intro _; rfl))) (pss_one (ps_ret pe_bl)) pss_nil)
    (pss_one (ps_expr (pe_bm PySem.F.plainAttrs_list PySem.F.slot_list_append PySem.F.type_list_append mt_append (pv 6) (pa_cons (pe_tup pa_nil) pa_nil)))))))
    (pss_one (ps_if (pt_not (pt_val (C8.pe_c c_law_alike hr (by omega) rfl (pa_cons (C8.pe_c c_is_alike hr (by omega) rfl (pa_cons (pv 3) pa_nil)) (pa_cons (pe_cmpR (op_eqD hr.units) (pe_lc (own := [("_law_row", 7)]) (g := (gName 7)) (tt := (tTest (tOp (rNeD K) (tOp (rIxT K) (tVar 7) (tC (.int 2))) (tTup (tCons (tOp (rIxT K) (tVar 7) (tC (.int 1))) tNil))))) (te := (tVar 7)) rfl sc_law.nd (pi_list (pv 4)) (blkOk_by (N := ["_law_script", "_law_box", "_law_turn", "_law_program_here", "_law_due", "_law_again", "_law_found", "_law_row"]) (sc := defScope s_law) (by decide +kernel)) (fun _ _ _ _ _ => (pg_name (i := 7) sc_law.nd rfl (Or.inl rfl))) (fun _ _ _ _ _ => (pts_one (pt_cmpR (op_neD hr.units) (pe_ix ix_tup (pv 7) pe_int (fun _ _ => rfl)) (pe_tup (pa_cons (pe_ix ix_tup (pv 7) pe_int (fun _ _ => rfl)) pa_nil)) (nomark _)))) (fun _ _ _ _ _ => (pv 7))) (pe_lst pa_nil) (nomark _)) pa_nil))) (by intro _; rfl))) (pss_one (ps_ret pe_bl)) pss_nil))))))
    (pss_one (ps_ret pe_bl))))
theorem chain {f : Addr} {fd : FuncData} (F : Fun K "law" "law" s_law f fd) (T : Txt K w mg dP es n0 cChk cLkr) (D_law_begun : DefOk K mg "_law_begun" s__law_begun ["_law_script"]) (D_law_take : DefOk K mg "_law_take" s__law_take ["_law_box", "_law_many"]) (D_law_leaf : DefOk K mg "_law_leaf" s__law_leaf ["_law_box", "_law_names"]) (D_law_fun : DefOk K mg "_law_fun" s__law_fun ["_law_box", "_law_deep", "_law_names", "_law_funs", "_law_words"]) (D_law_part : DefOk K mg "_law_part" s__law_part ["_law_box", "_law_deep", "_law_names", "_law_funs", "_law_words"]) (D_law_inner : DefOk K mg "_law_inner" s__law_inner ["_law_part_here"]) (D_law_size : DefOk K mg "_law_size" s__law_size ["_law_part_here"]) (D_law_program : DefOk K mg "_law_program" s__law_program ["_law_box", "_law_deep"]) (D_law_alike : DefOk K mg "_law_alike" s__law_alike ["_law_found", "_law_due"]) (D_is_word : DefOk K mg "is_word" s_is_word ["word"]) (D_are_words : DefOk K mg "are_words" s_are_words ["words", "most"]) (D_inner_of : DefOk K mg "inner_of" s_inner_of ["part"]) (D_Check_must : MetOk K cChk "must" "Check.must" s_Check_must ["self", "good", "place"]) (D_Check_look : MetOk K cChk "look" "Check.look" s_Check_look ["self", "part", "names", "funs"]) (D_check_program : DefOk K mg "check_program" s_check_program ["program"]) (D_size_of : DefOk K mg "size_of" s_size_of ["part"]) (D_Looker_see : MetOk K cLkr "see" "Looker.see" s_Looker_see ["self", "number", "near", "called"]) (D_with_one : DefOk K mg "with_one" s_with_one ["bound", "name", "number"]) (D_Looker_go : MetOk K cLkr "go" "Looker.go" s_Looker_go ["self", "part", "number", "near", "called", "funs"]) (D_Looker_enter : MetOk K cLkr "enter" "Looker.enter" s_Looker_enter ["self", "fun", "called"]) (D_looked : DefOk K mg "looked" s_looked ["program"]) (D_binders : DefOk K mg "binders" s_binders ["program"]) (D_is_alike : DefOk K mg "is_alike" s_is_alike ["program"]) (D_law_with : DefOk K mg "_law_with" s__law_with ["_law_bound", "_law_names", "_law_number"]) (D_law_see : DefOk K mg "_law_see" s__law_see ["_law_part_here", "_law_number", "_law_bounds", "_law_funs", "_law_table"]) (D_law_binders : DefOk K mg "_law_binders" s__law_binders ["_law_program_here"]) (D_Check : MakOk K mg cChk "Check" "Check.__init__" s_Check___init__ ["self"]) (D_Looker : MakOk K mg cLkr "Looker" "Looker.__init__" s_Looker___init__ ["self"]) : FnOk P w K mg base C8.CX0 (154 + 1) f fd ["_law_script"] (spLaw K) := by
  have c_Check : C8.Mak P w K mg base (1) "Check" cChk (spChkInit cChk) [] := D_Check.cal fun f fd F => ok_Check___init__ F T
  have c_Looker : C8.Mak P w K mg base (1) "Looker" cLkr (spLkInit cLkr) [] := D_Looker.cal fun f fd F => ok_Looker___init__ F T
  have c_law_begun : C8.Cal P w K mg base (0 + 1) "_law_begun" (spBegun K) [] := D_law_begun.cal  fun f fd F => ok_law_begun F T 
  have c_law_take : C8.Cal P w K mg base (0 + 1) "_law_take" (spTake) [] := D_law_take.cal  fun f fd F => ok_law_take F T 
  have c_law_leaf : C8.Cal P w K mg base (1 + 1) "_law_leaf" (spLeaf K) [] := D_law_leaf.cal  fun f fd F => ok_law_leaf F T c_law_take
  have cn_law_part : ∀ n, C8.Cal P w K mg base (2 * n + 3) "_law_part" (spPart K n) [] := fun n => by
    induction n with
    | zero => exact D_law_part.cal  fun f fd F => FnOk.none no_part
    | succ n ih =>
      have c_law_fun : C8.Cal P w K mg base (2 * n + 4) "_law_fun" (spFun K n) [] := D_law_fun.cal  fun f fd F => ok_law_fun F T c_law_take ih c_law_leaf
      have e : 2 * (n + 1) + 3 = 2 * n + 4 + 1 := by omega
      rw [e]
      exact D_law_part.cal  fun f fd F => ok_law_part F T c_law_take ih c_law_leaf c_law_fun
  have c_law_part := cn_law_part 7
  have c_law_inner : C8.Cal P w K mg base (0 + 1) "_law_inner" (spInner K) [] := D_law_inner.cal  fun f fd F => ok_law_inner F T 
  have cn_law_size : ∀ n, C8.Cal P w K mg base (n + 1) "_law_size" (spSize K n) [] := fun n => by
    induction n with
    | zero => exact D_law_size.cal  fun f fd F => FnOk.none no_size
    | succ n ih => exact D_law_size.cal  fun f fd F => ok_law_size F T ih c_law_inner
  have c_law_size := cn_law_size 20
  have c_law_program : C8.Cal P w K mg base (23 + 1) "_law_program" (spProgram K) [] := D_law_program.cal  fun f fd F => ok_law_program F T c_law_take c_law_part c_law_size
  have cn_law_alike : ∀ n, C8.Cal P w K mg base (n) "_law_alike" (spAlike K n) [] := fun n => by
    induction n with
    | zero => exact D_law_alike.cal  fun f fd F => FnOk.none no_alike
    | succ n ih => exact D_law_alike.cal  fun f fd F => ok_law_alike F T ih
  have c_law_alike := cn_law_alike 5
  have c_is_word : C8.Cal P w K mg base (0 + 1) "is_word" (spIsWord K) [] := D_is_word.cal  fun f fd F => ok_is_word F T 
  have c_are_words : C8.Cal P w K mg base (1 + 1) "are_words" (spAreWords K) [] := D_are_words.cal  fun f fd F => ok_are_words F T c_is_word
  have c_inner_of : C8.Cal P w K mg base (0 + 1) "inner_of" (spInner K) [] := D_inner_of.cal  fun f fd F => ok_inner_of F T 
  have c_Check_must : C8.Met P w K mg base (0 + 1) cChk "must" (spMust) [] := D_Check_must.cal T.chk.cl  fun f fd F => ok_Check_must F T 
  have cn_Check_look : ∀ n, C8.Met P w K mg base (n + 2) cChk "look" (spLook K cChk n) [] := fun n => by
    induction n with
    | zero => exact D_Check_look.cal T.chk.cl  fun f fd F => FnOk.none no_look
    | succ n ih => exact D_Check_look.cal T.chk.cl  fun f fd F => ok_Check_look F T c_is_word c_are_words c_inner_of c_Check_must ih
  have c_Check_look := cn_Check_look 20
  have c_check_program : C8.Cal P w K mg base (22 + 1) "check_program" (spCheckP K) [] := D_check_program.cal  fun f fd F => ok_check_program F T c_are_words c_Check c_Check_must c_Check_look
  have cn_size_of : ∀ n, C8.Cal P w K mg base (n + 1) "size_of" (spSize K n) [] := fun n => by
    induction n with
    | zero => exact D_size_of.cal  fun f fd F => FnOk.none no_size
    | succ n ih => exact D_size_of.cal  fun f fd F => ok_size_of F T ih c_inner_of
  have c_size_of := cn_size_of 20
  have c_Looker_see : C8.Met P w K mg base (0 + 1) cLkr "see" (spSee K cLkr) [] := D_Looker_see.cal T.lkr.cl  fun f fd F => ok_Looker_see F T 
  have c_with_one : C8.Cal P w K mg base (0 + 1) "with_one" (spWith1) [] := D_with_one.cal  fun f fd F => ok_with_one F T 
  have c_Looker_go2 : ∀ n, C8.Met P w K mg base (n + 21) cLkr "go" (spGo K P w cLkr n) [] ∧ C8.Met P w K mg base (n + 21) cLkr "enter" (spEnter K P w cLkr n) [] := fun n => by
    induction n with
    | zero => exact ⟨D_Looker_go.cal T.lkr.cl  fun f fd F => FnOk.none no_go, D_Looker_enter.cal T.lkr.cl  fun f fd F => FnOk.none no_enter⟩
    | succ n ih => exact ⟨D_Looker_go.cal T.lkr.cl  fun f fd F => ok_Looker_go F T c_Looker_see ih.1 ih.2 c_with_one c_size_of, D_Looker_enter.cal T.lkr.cl  fun f fd F => ok_Looker_enter F T ih.1 c_with_one⟩
  have c_Looker_go := (c_Looker_go2 130).1
  have c_looked : C8.Cal P w K mg base (151 + 1) "looked" (spLooked K P w cLkr) [] := D_looked.cal  fun f fd F => ok_looked F T c_Looker c_Looker_go
  have c_binders : C8.Cal P w K mg base (152 + 1) "binders" (spBinders K) [] := D_binders.cal  fun f fd F => ok_binders F T c_check_program c_looked
  have c_is_alike : C8.Cal P w K mg base (153 + 1) "is_alike" (spIsAlike K) [] := D_is_alike.cal  fun f fd F => ok_is_alike F T c_binders
  have c_law_with : C8.Cal P w K mg base (0 + 1) "_law_with" (spLWith K) [] := D_law_with.cal  fun f fd F => ok_law_with F T 
  have cn_law_see : ∀ n, C8.Cal P w K mg base (n + 21) "_law_see" (spLSee K n) [] := fun n => by
    induction n with
    | zero => exact D_law_see.cal  fun f fd F => FnOk.none no_lsee
    | succ n ih => exact D_law_see.cal  fun f fd F => ok_law_see F T ih c_law_with c_law_size c_law_inner
  have c_law_see := cn_law_see 130
  have c_law_binders : C8.Cal P w K mg base (151 + 1) "_law_binders" (spLBinders K) [] := D_law_binders.cal  fun f fd F => ok_law_binders F T c_law_see
  exact ok_law F T c_law_begun c_law_program c_law_binders c_binders c_is_alike c_law_alike
end
end BN
open PySem PySem.W PyProof.Rows
set_option maxRecDepth 100000 in
set_option maxHeartbeats 0 in
theorem PySem.Challenge.cw_bindnear_k08_whole_binders_holds : PySem.Challenge.rw_bindnear_k08_whole_binders.Holds := by
  w_on; o_law; k_head; (case hw => w_witness2)
  k_fill
  refine L2.walk_of (n := 63) (k := 154 + 1) (x := "_law_script") (CX := fun _ => C8.CX0) (sp := fun w => BN.spLaw _) rfl (by decide) rfl ⟨rfl, by decide, by decide⟩ (fun w h Y => PySem.W.kIn_of Y) ?F (fun _ _ a ns hl _ hS => ⟨a, ns, rfl, hS, hl, fun _ => rfl⟩) fun _ _ _ _ _ z => z
  case F =>
    intro w mg fa h KX G hmg
    have D_law_begun : BN.DefOkX KX mg "_law_begun" BN.s__law_begun ["_law_script"] := by
      refine' BN.DefOk.of KX G ?a ?l ?c ?k ?b
      (case a => k_is); (case l => k_is); (case c => k_is); (case k => k_is); (case b => exact fun _ _ _ _ _ _ us hl => match us, hl with | [_], _ => rfl)
    have D_law_take : BN.DefOkX KX mg "_law_take" BN.s__law_take ["_law_box", "_law_many"] := by
      refine' BN.DefOk.of KX G ?a ?l ?c ?k ?b
      (case a => k_is); (case l => k_is); (case c => k_is); (case k => k_is); (case b => exact fun _ _ _ _ _ _ us hl => match us, hl with | [_, _], _ => rfl)
    have D_law_leaf : BN.DefOkX KX mg "_law_leaf" BN.s__law_leaf ["_law_box", "_law_names"] := by
      refine' BN.DefOk.of KX G ?a ?l ?c ?k ?b
      (case a => k_is); (case l => k_is); (case c => k_is); (case k => k_is); (case b => exact fun _ _ _ _ _ _ us hl => match us, hl with | [_, _], _ => rfl)
    have D_law_fun : BN.DefOkX KX mg "_law_fun" BN.s__law_fun ["_law_box", "_law_deep", "_law_names", "_law_funs", "_law_words"] := by
      refine' BN.DefOk.of KX G ?a ?l ?c ?k ?b
      (case a => k_is); (case l => k_is); (case c => k_is); (case k => k_is); (case b => exact fun _ _ _ _ _ _ us hl => match us, hl with | [_, _, _, _, _], _ => rfl)
    have D_law_part : BN.DefOkX KX mg "_law_part" BN.s__law_part ["_law_box", "_law_deep", "_law_names", "_law_funs", "_law_words"] := by
      refine' BN.DefOk.of KX G ?a ?l ?c ?k ?b
      (case a => k_is); (case l => k_is); (case c => k_is); (case k => k_is); (case b => exact fun _ _ _ _ _ _ us hl => match us, hl with | [_, _, _, _, _], _ => rfl)
    have D_law_inner : BN.DefOkX KX mg "_law_inner" BN.s__law_inner ["_law_part_here"] := by
      refine' BN.DefOk.of KX G ?a ?l ?c ?k ?b
      (case a => k_is); (case l => k_is); (case c => k_is); (case k => k_is); (case b => exact fun _ _ _ _ _ _ us hl => match us, hl with | [_], _ => rfl)
    have D_law_size : BN.DefOkX KX mg "_law_size" BN.s__law_size ["_law_part_here"] := by
      refine' BN.DefOk.of KX G ?a ?l ?c ?k ?b
      (case a => k_is); (case l => k_is); (case c => k_is); (case k => k_is); (case b => exact fun _ _ _ _ _ _ us hl => match us, hl with | [_], _ => rfl)
    have D_law_program : BN.DefOkX KX mg "_law_program" BN.s__law_program ["_law_box", "_law_deep"] := by
      refine' BN.DefOk.of KX G ?a ?l ?c ?k ?b
      (case a => k_is); (case l => k_is); (case c => k_is); (case k => k_is); (case b => exact fun _ _ _ _ _ _ us hl => match us, hl with | [_, _], _ => rfl)
    have D_law_alike : BN.DefOkX KX mg "_law_alike" BN.s__law_alike ["_law_found", "_law_due"] := by
      refine' BN.DefOk.of KX G ?a ?l ?c ?k ?b
      (case a => k_is); (case l => k_is); (case c => k_is); (case k => k_is); (case b => exact fun _ _ _ _ _ _ us hl => match us, hl with | [_, _], _ => rfl)
    have D_is_word : BN.DefOkX KX mg "is_word" BN.s_is_word ["word"] := by
      refine' BN.DefOk.of KX G ?a ?l ?c ?k ?b
      (case a => k_is); (case l => k_is); (case c => k_is); (case k => k_is); (case b => exact fun _ _ _ _ _ _ us hl => match us, hl with | [_], _ => rfl)
    have D_are_words : BN.DefOkX KX mg "are_words" BN.s_are_words ["words", "most"] := by
      refine' BN.DefOk.of KX G ?a ?l ?c ?k ?b
      (case a => k_is); (case l => k_is); (case c => k_is); (case k => k_is); (case b => exact fun _ _ _ _ _ _ us hl => match us, hl with | [_, _], _ => rfl)
    have D_inner_of : BN.DefOkX KX mg "inner_of" BN.s_inner_of ["part"] := by
      refine' BN.DefOk.of KX G ?a ?l ?c ?k ?b
      (case a => k_is); (case l => k_is); (case c => k_is); (case k => k_is); (case b => exact fun _ _ _ _ _ _ us hl => match us, hl with | [_], _ => rfl)
    have D_check_program : BN.DefOkX KX mg "check_program" BN.s_check_program ["program"] := by
      refine' BN.DefOk.of KX G ?a ?l ?c ?k ?b
      (case a => k_is); (case l => k_is); (case c => k_is); (case k => k_is); (case b => exact fun _ _ _ _ _ _ us hl => match us, hl with | [_], _ => rfl)
    have D_size_of : BN.DefOkX KX mg "size_of" BN.s_size_of ["part"] := by
      refine' BN.DefOk.of KX G ?a ?l ?c ?k ?b
      (case a => k_is); (case l => k_is); (case c => k_is); (case k => k_is); (case b => exact fun _ _ _ _ _ _ us hl => match us, hl with | [_], _ => rfl)
    have D_with_one : BN.DefOkX KX mg "with_one" BN.s_with_one ["bound", "name", "number"] := by
      refine' BN.DefOk.of KX G ?a ?l ?c ?k ?b
      (case a => k_is); (case l => k_is); (case c => k_is); (case k => k_is); (case b => exact fun _ _ _ _ _ _ us hl => match us, hl with | [_, _, _], _ => rfl)
    have D_looked : BN.DefOkX KX mg "looked" BN.s_looked ["program"] := by
      refine' BN.DefOk.of KX G ?a ?l ?c ?k ?b
      (case a => k_is); (case l => k_is); (case c => k_is); (case k => k_is); (case b => exact fun _ _ _ _ _ _ us hl => match us, hl with | [_], _ => rfl)
    have D_binders : BN.DefOkX KX mg "binders" BN.s_binders ["program"] := by
      refine' BN.DefOk.of KX G ?a ?l ?c ?k ?b
      (case a => k_is); (case l => k_is); (case c => k_is); (case k => k_is); (case b => exact fun _ _ _ _ _ _ us hl => match us, hl with | [_], _ => rfl)
    have D_is_alike : BN.DefOkX KX mg "is_alike" BN.s_is_alike ["program"] := by
      refine' BN.DefOk.of KX G ?a ?l ?c ?k ?b
      (case a => k_is); (case l => k_is); (case c => k_is); (case k => k_is); (case b => exact fun _ _ _ _ _ _ us hl => match us, hl with | [_], _ => rfl)
    have D_law_with : BN.DefOkX KX mg "_law_with" BN.s__law_with ["_law_bound", "_law_names", "_law_number"] := by
      refine' BN.DefOk.of KX G ?a ?l ?c ?k ?b
      (case a => k_is); (case l => k_is); (case c => k_is); (case k => k_is); (case b => exact fun _ _ _ _ _ _ us hl => match us, hl with | [_, _, _], _ => rfl)
    have D_law_see : BN.DefOkX KX mg "_law_see" BN.s__law_see ["_law_part_here", "_law_number", "_law_bounds", "_law_funs", "_law_table"] := by
      refine' BN.DefOk.of KX G ?a ?l ?c ?k ?b
      (case a => k_is); (case l => k_is); (case c => k_is); (case k => k_is); (case b => exact fun _ _ _ _ _ _ us hl => match us, hl with | [_, _, _, _, _], _ => rfl)
    have D_law_binders : BN.DefOkX KX mg "_law_binders" BN.s__law_binders ["_law_program_here"] := by
      refine' BN.DefOk.of KX G ?a ?l ?c ?k ?b
      (case a => k_is); (case l => k_is); (case c => k_is); (case k => k_is); (case b => exact fun _ _ _ _ _ _ us hl => match us, hl with | [_], _ => rfl)
    obtain ⟨dP, es, n0, PT, gP⟩ : ∃ (dP : Addr) (es : Array DictEntry) (n : Nat), BN.PTabX KX w dP es n ∧ ∃ u, mg "PARTS" = some u ∧ L2.RelV (.ref dP) u := by
      refine' BN.ptab_of KX G ?a ?D ?kl ?low ?k1 ?k2 ?k3 ?k4 ?k5 ?k6 ?k7 ?k8 ?k9 ?r1 ?r2 ?r3 ?r4 ?r5 ?r6 ?r7 ?r8 ?r9
      (case a => k_is); (case D => k_is)
      (case kl => exact ⟨⟨_, _, rfl, rfl⟩, ⟨_, _, rfl, rfl⟩, ⟨_, _, rfl, rfl⟩, ⟨_, _, rfl, rfl⟩, ⟨_, _, rfl, rfl⟩, ⟨_, _, rfl, rfl⟩, ⟨_, _, rfl, rfl⟩, ⟨_, _, rfl, rfl⟩, ⟨_, _, rfl, rfl⟩, trivial⟩)
      (case low => first | rfl | decide)
      (case k1 => k_is); (case k2 => k_is); (case k3 => k_is); (case k4 => k_is); (case k5 => k_is); (case k6 => k_is); (case k7 => k_is); (case k8 => k_is); (case k9 => k_is)
      all_goals exact ⟨_, rfl⟩
    obtain ⟨cChk, H_cChk, D_Check, D_Check_must, D_Check_look⟩ : ∃ cChk : Addr, BN.ChkCX KX cChk ∧ BN.MakOkX KX mg cChk "Check" "Check.__init__" BN.s_Check___init__ ["self"] ∧ BN.MetOkX KX cChk "must" "Check.must" BN.s_Check_must ["self", "good", "place"] ∧ BN.MetOkX KX cChk "look" "Check.look" BN.s_Check_look ["self", "part", "names", "funs"] := by
      refine' ⟨_, ⟨⟨?pg, ?hd, ?po, ?sa⟩, ?n0⟩, BN.MakOk.of (PySem.W.mg_of KX G ?aC) ?mk ?kc ?a0 ?i0 ?l0 ?c0 ?k0 ?b0, BN.MetOk.of ?a1 ?i1 ?l1 ?c1 ?k1 ?b1, BN.MetOk.of ?a2 ?i2 ?l2 ?c2 ?k2 ?b2⟩
      (case aC => k_is); (case pg => k_is); (case hd => k_is); (case po => k_is); (case sa => k_is); (case mk => k_is); (case kc => k_is)
      (case n0 => unfold L2.NoAttr; k_is)
      (case a0 => k_is); (case i0 => k_is); (case l0 => k_is); (case c0 => k_is); (case k0 => k_is); (case b0 => exact fun _ _ _ _ _ _ us hl => match us, hl with | [_], _ => rfl)
      (case a1 => k_is); (case i1 => k_is); (case l1 => k_is); (case c1 => k_is); (case k1 => k_is); (case b1 => exact fun _ _ _ _ _ _ us hl => match us, hl with | [_, _, _], _ => rfl)
      (case a2 => k_is); (case i2 => k_is); (case l2 => k_is); (case c2 => k_is); (case k2 => k_is); (case b2 => exact fun _ _ _ _ _ _ us hl => match us, hl with | [_, _, _, _], _ => rfl)
    obtain ⟨cLkr, H_cLkr, D_Looker, D_Looker_see, D_Looker_go, D_Looker_enter⟩ : ∃ cLkr : Addr, BN.LkCX KX cLkr ∧ BN.MakOkX KX mg cLkr "Looker" "Looker.__init__" BN.s_Looker___init__ ["self"] ∧ BN.MetOkX KX cLkr "see" "Looker.see" BN.s_Looker_see ["self", "number", "near", "called"] ∧ BN.MetOkX KX cLkr "go" "Looker.go" BN.s_Looker_go ["self", "part", "number", "near", "called", "funs"] ∧ BN.MetOkX KX cLkr "enter" "Looker.enter" BN.s_Looker_enter ["self", "fun", "called"] := by
      refine' ⟨_, ⟨⟨?pg, ?hd, ?po, ?sa⟩, ?n0, ?n1, ?n2⟩, BN.MakOk.of (PySem.W.mg_of KX G ?aC) ?mk ?kc ?a0 ?i0 ?l0 ?c0 ?k0 ?b0, BN.MetOk.of ?a1 ?i1 ?l1 ?c1 ?k1 ?b1, BN.MetOk.of ?a2 ?i2 ?l2 ?c2 ?k2 ?b2, BN.MetOk.of ?a3 ?i3 ?l3 ?c3 ?k3 ?b3⟩
      (case aC => k_is); (case pg => k_is); (case hd => k_is); (case po => k_is); (case sa => k_is); (case mk => k_is); (case kc => k_is)
      (case n0 => unfold L2.NoAttr; k_is); (case n1 => unfold L2.NoAttr; k_is); (case n2 => unfold L2.NoAttr; k_is)
      (case a0 => k_is); (case i0 => k_is); (case l0 => k_is); (case c0 => k_is); (case k0 => k_is); (case b0 => exact fun _ _ _ _ _ _ us hl => match us, hl with | [_], _ => rfl)
      (case a1 => k_is); (case i1 => k_is); (case l1 => k_is); (case c1 => k_is); (case k1 => k_is); (case b1 => exact fun _ _ _ _ _ _ us hl => match us, hl with | [_, _, _, _], _ => rfl)
      (case a2 => k_is); (case i2 => k_is); (case l2 => k_is); (case c2 => k_is); (case k2 => k_is); (case b2 => exact fun _ _ _ _ _ _ us hl => match us, hl with | [_, _, _, _, _, _], _ => rfl)
      (case a3 => k_is); (case i3 => k_is); (case l3 => k_is); (case c3 => k_is); (case k3 => k_is); (case b3 => exact fun _ _ _ _ _ _ us hl => match us, hl with | [_, _, _], _ => rfl)
    have T : BN.TxtX KX w mg dP es n0 cChk cLkr := by
      refine' ⟨PySem.W.mg_none_of KX G ?b_range, PySem.W.mg_none_of KX G ?b_len, PySem.W.mg_none_of KX G ?b_int, PySem.W.mg_none_of KX G ?b_bool, PySem.W.mg_none_of KX G ?b_str, PySem.W.mg_none_of KX G ?b_list, PySem.W.mg_none_of KX G ?b_tuple, PySem.W.mg_none_of KX G ?b_sum, PySem.W.mg_none_of KX G ?b_isinstance, PySem.W.mg_none_of KX G ?b_all, PySem.W.mg_none_of KX G ?b_set, PySem.W.mg_none_of KX G ?b_dict, PySem.W.mg_none_of KX G ?b_zip, PySem.W.mg_none_of KX G ?b_sorted, PySem.W.mg_none_of KX G ?b_enumerate, PySem.W.mg_none_of KX G ?b_reversed, PySem.W.mg_none_of KX G ?b_min, BN.glob_of KX G ?g_SMALL ?r_SMALL, BN.glob_of KX G ?g_MOST_SIGNS ?r_MOST_SIGNS, BN.glob_of KX G ?g_MOST_NUMBER ?r_MOST_NUMBER, BN.glob_of KX G ?g_MOST_INPUTS ?r_MOST_INPUTS, BN.glob_of KX G ?g_MOST_PARAMS ?r_MOST_PARAMS, BN.glob_of KX G ?g_MOST_PARTS ?r_MOST_PARTS, BN.glob_of KX G ?g_INPUTS ?r_INPUTS, gP, PT, PT.kd, H_cChk, H_cLkr⟩
      (case b_range => k_is)
      (case b_len => k_is)
      (case b_int => k_is)
      (case b_bool => k_is)
      (case b_str => k_is)
      (case b_list => k_is)
      (case b_tuple => k_is)
      (case b_sum => k_is)
      (case b_isinstance => k_is)
      (case b_all => k_is)
      (case b_set => k_is)
      (case b_dict => k_is)
      (case b_zip => k_is)
      (case b_sorted => k_is)
      (case b_enumerate => k_is)
      (case b_reversed => k_is)
      (case b_min => k_is)
      (case g_SMALL => k_is); (case r_SMALL => exact ⟨_, rfl⟩)
      (case g_MOST_SIGNS => k_is); (case r_MOST_SIGNS => exact ⟨_, rfl⟩)
      (case g_MOST_NUMBER => k_is); (case r_MOST_NUMBER => exact ⟨_, rfl⟩)
      (case g_MOST_INPUTS => k_is); (case r_MOST_INPUTS => exact ⟨_, rfl⟩)
      (case g_MOST_PARAMS => k_is); (case r_MOST_PARAMS => exact ⟨_, rfl⟩)
      (case g_MOST_PARTS => k_is); (case r_MOST_PARTS => exact ⟨_, rfl⟩)
      (case g_INPUTS => k_is); (case r_INPUTS => exact ⟨_, rfl⟩)
    obtain ⟨fdl, Fl, bl⟩ : ∃ fd : FuncData, BN.LawX KX BN.s_law fa fd ∧ ∀ (s : Shared) (v : Value), BindsTo s fd ⟨[v], []⟩ [("_law_script", v)] := by
      refine' BN.law_of KX G hmg ?a ?l ?c ?k ?b
      (case a => k_is); (case l => k_is); (case c => k_is); (case k => k_is); (case b => exact fun s v => .of_eq rfl)
    exact ⟨fdl, bl, fun base _ _ => BN.chain Fl T D_law_begun D_law_take D_law_leaf D_law_fun D_law_part D_law_inner D_law_size D_law_program D_law_alike D_is_word D_are_words D_inner_of D_Check_must D_Check_look D_check_program D_size_of D_Looker_see D_with_one D_Looker_go D_Looker_enter D_looked D_binders D_is_alike D_law_with D_law_see D_law_binders D_Check D_Looker⟩
