import PyProof.Rows.All
import Wide.All
import OpenK.AllK
import Wide.FinOn
import HandS.ForMost
import HandS.Style
import HandS.IsInst
import HandS.Conv
import HandS.More
import HandS.Codes
import HandS.Steps
import HandS.Set
import HandS.Strs
import HandS.SetFor
import KE.KDictZip
import KE.GoesMore
import KE.GoesEnum
import HandS.ListItems
import HandS.Zip
import PyProof.EnumMake
import PyProof.Rows.SortStr
import HandS.CallRecv
import HandS.TupAny
import PySem.Challenge.RW_bindnear_k11_whole_names_handed_on
set_option Elab.async false
set_option linter.all false
set_option maxRecDepth 100000
set_option maxHeartbeats 8000000
namespace BN
open PySem L2 PyProof.Rows

/-! ### frames: what a call may change -/
abbrev CP := Addr → HO → Prop
structure Fr (C : CP) (H H' : Hp) : Prop where
  keep : ∀ a o, H a = some o → ¬ (C a o ∧ Mut (some o)) → H' a = some o
  free : ∀ a, H' a = none → H a = none
def c0 : CP := fun _ _ => False
theorem Fr.refl {C : CP} (H : Hp) : Fr C H H := ⟨fun _ _ h _ => h, fun _ h => h⟩
theorem Fr.trans {C : CP} {H H1 H2 : Hp} (a : Fr C H H1) (b : Fr C H1 H2) : Fr C H H2 :=
  ⟨fun x o h n => b.keep x o (a.keep x o h n) n, fun x h => a.free x (b.free x h)⟩
theorem Fr.mono {C C' : CP} {H H' : Hp} (a : Fr C H H') (h : ∀ a o, C a o → C' a o) : Fr C' H H' :=
  ⟨fun x o e n => a.keep x o e fun z => n ⟨h _ _ z.1, z.2⟩, a.free⟩
theorem Fr.of0 {C : CP} {H H' : Hp} (a : Fr c0 H H') : Fr C H H' := a.mono fun _ _ z => z.elim
theorem Fr.new {C : CP} {H : Hp} {p : Addr} {o : HO} (hp : H p = none) : Fr C H (upd H p o) :=
  ⟨fun a u e _ => by rw [upd_ne (ne_of_none e hp)]; exact e, fun a h => by
    by_cases e : a = p
    · subst e; exact hp
    · rw [upd_ne e] at h; exact h⟩
theorem Fr.set {C : CP} {H : Hp} {p : Addr} {o o' : HO} (hp : H p = some o) (hc : C p o) (hm : Mut (some o)) : Fr C H (upd H p o') :=
  ⟨fun a u e n => by
    by_cases q : a = p
    · subst q; rw [hp] at e; cases e; exact absurd ⟨hc, hm⟩ n
    · rw [upd_ne q]; exact e, fun a h => by
    by_cases q : a = p
    · subst q; rw [upd_same] at h; cases h
    · rw [upd_ne q] at h; exact h⟩
/-- what is new ahead may be changed freely -/
theorem Fr.fresh {C : CP} {H H' : Hp} {p : Addr} {o : HO} (e : Fr C H H') (hp : H p = none) : Fr C H (upd H' p o) :=
  ⟨fun a u h n => by rw [upd_ne (ne_of_none h hp)]; exact e.keep a u h n, fun a h => by
    by_cases q : a = p
    · subst q; exact hp
    · rw [upd_ne q] at h; exact e.free a h⟩
theorem Fr.tup {C : CP} {H H' : Hp} {a : Addr} {xs : List V} (f : Fr C H H') (h : H a = some (.tup xs)) : H' a = some (.tup xs) := f.keep a _ h fun z => z.2
theorem Fr.frz {C : CP} {H H' : Hp} {a : Addr} {o : Obj} {u : HO} (f : Fr C H H') (h : H a = some (.frz o u)) : H' a = some (.frz o u) := f.keep a _ h fun z => z.2
theorem Fr.sqT {C : CP} {K : PySem.W.Frag} {H H' : Hp} {a : Addr} {xs : List V} (f : Fr C H H') (h : SqT K H a xs) : SqT K H' a xs := by
  rcases h with (h | ⟨o, h⟩) | h
  · exact .inl (.inl (f.tup h))
  · exact .inl (.inr ⟨o, f.frz h⟩)
  · exact .inr h
theorem Fr.sqL {C : CP} {K : PySem.W.Frag} {H H' : Hp} {a : Addr} {xs : List V} (f : Fr C H H') (n : ∀ o, ¬ C a o) (h : SqL K H a xs) : SqL K H' a xs := by
  rcases h with (h | ⟨o, h⟩) | h
  · exact .inl (.inl (f.keep a _ h fun z => n _ z.1))
  · exact .inl (.inr ⟨o, f.frz h⟩)
  · exact .inr h
theorem Fr.at {C : CP} {H H' : Hp} {a : Addr} {o : HO} (f : Fr C H H') (h : H a = some o) (n : ¬ C a o) : H' a = some o := f.keep a o h fun z => n z.1
theorem Fr.same {H H' : Hp} (f : Fr c0 H H') : Same H H' := fun a o h => f.keep a o h fun z => z.1

/-! ### data of tuples alone -/
mutual
def tupD : PyData → Bool
  | .list _ => false
  | .dict _ => false
  | .tuple ds => tupDs ds
  | _ => true
def tupDs : List PyData → Bool
  | [] => true
  | d :: r => tupD d && tupDs r
end
section
variable {C : CP} {K : PySem.W.Frag} {H H' : Hp}
mutual
theorem Dp.fr (f : Fr C H H') : ∀ (d : PyData) (v : V), tupD d = true → Dp K H v d → Dp K H' v d
  | .none, _, _, h => by cases h; exact .non
  | .bool b, _, _, h => by cases h; exact .bl b
  | .int i, _, _, h => by cases h; exact .int i
  | .str x, _, _, h => by cases h; exact .str x
  | .list ds, _, t, _ => by simp [tupD] at t
  | .dict ds, _, t, _ => by simp [tupD] at t
  | .tuple ds, _, t, h => by
    cases h with
    | tup hs ha => exact .tup (f.sqT hs) (Dp.frs f ds _ (by simpa [tupD] using t) ha)
theorem Dp.frs (f : Fr C H H') : ∀ (ds : List PyData) (vs : List V), tupDs ds = true → DpAll K H vs ds → DpAll K H' vs ds
  | [], _, _, h => by cases h; exact .nil
  | d :: ds, _, t, h => by
    have t' : tupD d = true ∧ tupDs ds = true := by simpa [tupDs] using t
    cases h with
    | cons h1 h2 => exact .cons (Dp.fr f d _ t'.1 h1) (Dp.frs f ds _ t'.2 h2)
end
mutual
theorem Dp.sm (f : Fr c0 H H') : ∀ (d : PyData) (v : V), Dp K H v d → Dp K H' v d
  | .none, _, h => by cases h; exact .non
  | .bool b, _, h => by cases h; exact .bl b
  | .int i, _, h => by cases h; exact .int i
  | .str x, _, h => by cases h; exact .str x
  | .list ds, _, h => by
    cases h with
    | lst hs ha => exact .lst (f.sqL (fun _ z => z) hs) (Dp.sms f ds _ ha)
  | .dict ds, _, h => by cases h
  | .tuple ds, _, h => by
    cases h with
    | tup hs ha => exact .tup (f.sqT hs) (Dp.sms f ds _ ha)
theorem Dp.sms (f : Fr c0 H H') : ∀ (ds : List PyData) (vs : List V), DpAll K H vs ds → DpAll K H' vs ds
  | [], _, h => by cases h; exact .nil
  | d :: ds, _, h => by
    cases h with
    | cons h1 h2 => exact .cons (Dp.sm f d _ h1) (Dp.sms f ds _ h2)
end
end
end BN
namespace L2
open PySem PyProof.Rows
section
variable {K : PySem.W.Frag} {H : Hp}
theorem DpAll.len : ∀ {vs : List V} {ds : List PyData}, DpAll K H vs ds → vs.length = ds.length
  | _, _, .nil => rfl
  | _, _, .cons _ t => by rw [List.length_cons, List.length_cons, DpAll.len t]
theorem DpAll.get : ∀ {vs : List V} {ds : List PyData} {i : Nat} {d : PyData}, DpAll K H vs ds → ds[i]? = some d → ∃ v, vs[i]? = some v ∧ Dp K H v d
  | _, _, _, _, .nil, e => by simp at e
  | _, _, 0, _, .cons r _, e => by simp at e; subst e; exact ⟨_, rfl, r⟩
  | _, _, i + 1, d, .cons _ t, e => by
    obtain ⟨v, h1, h2⟩ := DpAll.get (i := i) (d := d) t (by simpa using e)
    exact ⟨v, by simpa using h1, h2⟩
theorem DpAll.getV : ∀ {vs : List V} {ds : List PyData} {i : Nat} {v : V}, DpAll K H vs ds → vs[i]? = some v → ∃ d, ds[i]? = some d ∧ Dp K H v d
  | _, _, _, _, .nil, e => by simp at e
  | _, _, 0, _, .cons r _, e => by simp at e; subst e; exact ⟨_, rfl, r⟩
  | _, _, i + 1, v, .cons _ t, e => by
    obtain ⟨d, h1, h2⟩ := DpAll.getV (i := i) (v := v) t (by simpa using e)
    exact ⟨d, by simpa using h1, h2⟩
theorem DpAll.append : ∀ {vs ws : List V} {ds es : List PyData}, DpAll K H vs ds → DpAll K H ws es → DpAll K H (vs ++ ws) (ds ++ es)
  | _, _, _, _, .nil, h => h
  | _, _, _, _, .cons r t, h => .cons r (DpAll.append t h)
theorem DpAll.take : ∀ {vs : List V} {ds : List PyData} (n : Nat), DpAll K H vs ds → DpAll K H (vs.take n) (ds.take n)
  | _, _, 0, _ => .nil
  | _, _, _ + 1, .nil => .nil
  | _, _, n + 1, .cons r t => .cons r (DpAll.take n t)
theorem DpAll.drop : ∀ {vs : List V} {ds : List PyData} (n : Nat), DpAll K H vs ds → DpAll K H (vs.drop n) (ds.drop n)
  | _, _, 0, h => h
  | _, _, _ + 1, .nil => .nil
  | _, _, n + 1, .cons r t => DpAll.drop n t
theorem DpAll.strs : ∀ (xs : List Str), DpAll K H (xs.map V.str) (xs.map PyData.str)
  | [] => .nil
  | x :: r => .cons (.str x) (DpAll.strs r)
theorem DpAll.ints : ∀ (xs : List Int), DpAll K H (xs.map V.int) (xs.map PyData.int)
  | [] => .nil
  | x :: r => .cons (.int x) (DpAll.ints r)
theorem DpAll.strs_inv : ∀ {xs : List Str} {vs : List V}, DpAll K H vs (xs.map PyData.str) → vs = xs.map V.str
  | [], _, h => by cases h; rfl
  | x :: r, _, h => by
    cases h with
    | cons h1 h2 => cases h1; rw [DpAll.strs_inv h2]; rfl
theorem DpAll.ints_inv : ∀ {xs : List Int} {vs : List V}, DpAll K H vs (xs.map PyData.int) → vs = xs.map V.int
  | [], _, h => by cases h; rfl
  | x :: r, _, h => by
    cases h with
    | cons h1 h2 => cases h1; rw [DpAll.ints_inv h2]; rfl
theorem Dp.tup_inv {v : V} {ds : List PyData} (h : Dp K H v (.tuple ds)) : ∃ a xs, v = .ref a ∧ SqT K H a xs ∧ DpAll K H xs ds := by
  cases h with
  | tup hs ha => exact ⟨_, _, rfl, hs, ha⟩
theorem Dp.lst_inv {v : V} {ds : List PyData} (h : Dp K H v (.list ds)) : ∃ a xs, v = .ref a ∧ SqL K H a xs ∧ DpAll K H xs ds := by
  cases h with
  | lst hs ha => exact ⟨_, _, rfl, hs, ha⟩
theorem Dp.str_inv {v : V} {x : Str} (h : Dp K H v (.str x)) : v = .str x := by cases h; rfl
theorem Dp.int_inv {v : V} {x : Int} (h : Dp K H v (.int x)) : v = .int x := by cases h; rfl
end
end L2
namespace BN
open PySem L2 PyProof.Rows
theorem tupDs_all : ∀ {ds : List PyData}, (∀ d ∈ ds, tupD d = true) → tupDs ds = true
  | [], _ => by simp [tupDs]
  | d :: r, h => by
    have h1 := h d (List.mem_cons_self ..)
    have h2 : tupDs r = true := tupDs_all fun x hx => h x (List.mem_cons_of_mem _ hx)
    simp [tupDs, h1, h2]
theorem tupDs_str (xs : List Str) : tupDs (xs.map PyData.str) = true := tupDs_all fun d hd => by
  obtain ⟨x, _, rfl⟩ := List.mem_map.mp hd
  simp [tupD]

/-! ### equality of lists of plain things -/
theorem eqv_lists_nil {ds : List PyData} : PyData.eqv (.list ds) (.list []) = ds.isEmpty := by
  cases ds <;> simp [PyData.eqv, PyData.eqvAll]
end BN
namespace BN
open PySem L2
/-! ### programs -/
mutual
inductive Part where
  | num (n : Int)
  | name (x : Str)
  | add (a b : Part)
  | less (a b : Part)
  | ite (c a b : Part)
  | say (a : Part)
  | lt (x : Str) (a b : Part)
  | fn (f : Str) (ps : List Str) (body rest : Part)
  | call (f : Str) (as : Parts)
inductive Parts where
  | nil
  | cons (p : Part) (r : Parts)
end
def Parts.len : Parts → Nat
  | .nil => 0
  | .cons _ r => r.len + 1
def Parts.list : Parts → List Part
  | .nil => []
  | .cons p r => p :: r.list
theorem Parts.list_len : ∀ as : Parts, as.list.length = as.len
  | .nil => rfl
  | .cons _ r => by rw [Parts.list, List.length_cons, Parts.list_len r]; rfl
def Parts.of : List Part → Parts
  | [] => .nil
  | p :: r => .cons p (Parts.of r)
theorem Parts.list_of : ∀ l : List Part, (Parts.of l).list = l
  | [] => rfl
  | p :: r => by rw [Parts.of, Parts.list, Parts.list_of r]
theorem Parts.of_list : ∀ as : Parts, Parts.of as.list = as
  | .nil => rfl
  | .cons p r => by rw [Parts.list, Parts.of, Parts.of_list r]
theorem Parts.len_of (l : List Part) : (Parts.of l).len = l.length := by rw [← Parts.list_len, Parts.list_of]
mutual
def Part.enc : Part → PyData
  | .num n => .tuple [.str "num", .int n]
  | .name x => .tuple [.str "name", .str x]
  | .add a b => .tuple [.str "add", a.enc, b.enc]
  | .less a b => .tuple [.str "less", a.enc, b.enc]
  | .ite c a b => .tuple [.str "if", c.enc, a.enc, b.enc]
  | .say a => .tuple [.str "say", a.enc]
  | .lt x a b => .tuple [.str "let", .str x, a.enc, b.enc]
  | .fn f ps b r => .tuple [.str "fun", .str f, .tuple (ps.map .str), b.enc, r.enc]
  | .call f as => .tuple [.str "call", .str f, .tuple as.encs]
def Parts.encs : Parts → List PyData
  | .nil => []
  | .cons p r => p.enc :: r.encs
end
theorem Parts.encs_list : ∀ as : Parts, as.encs = as.list.map Part.enc
  | .nil => by simp [Parts.encs, Parts.list]
  | .cons p r => by simp [Parts.encs, Parts.list, Parts.encs_list r]
theorem Parts.encs_of (l : List Part) : (Parts.of l).encs = l.map Part.enc := by rw [Parts.encs_list, Parts.list_of]
theorem Parts.encs_len (as : Parts) : as.encs.length = as.len := by rw [Parts.encs_list, List.length_map, Parts.list_len]
mutual
theorem tup_enc : ∀ p : Part, tupD p.enc = true
  | .num n => by simp [Part.enc, tupD, tupDs]
  | .name x => by simp [Part.enc, tupD, tupDs]
  | .add a b => by simp [Part.enc, tupD, tupDs, tup_enc a, tup_enc b]
  | .less a b => by simp [Part.enc, tupD, tupDs, tup_enc a, tup_enc b]
  | .ite c a b => by simp [Part.enc, tupD, tupDs, tup_enc a, tup_enc b, tup_enc c]
  | .say a => by simp [Part.enc, tupD, tupDs, tup_enc a]
  | .lt x a b => by simp [Part.enc, tupD, tupDs, tup_enc a, tup_enc b]
  | .fn f ps b r => by simp [Part.enc, tupD, tupDs, tup_enc b, tup_enc r, tupDs_str]
  | .call f as => by simp [Part.enc, tupD, tupDs, tup_encs as]
theorem tup_encs : ∀ as : Parts, tupDs as.encs = true
  | .nil => by simp [Parts.encs, tupDs]
  | .cons p r => by simp [Parts.encs, tupDs, tup_enc p, tup_encs r]
end
mutual
def Part.size : Part → Nat
  | .num _ => 1
  | .name _ => 1
  | .add a b => 1 + (a.size + b.size)
  | .less a b => 1 + (a.size + b.size)
  | .ite c a b => 1 + (c.size + (a.size + b.size))
  | .say a => 1 + a.size
  | .lt _ a b => 1 + (a.size + b.size)
  | .fn _ _ b r => 1 + (b.size + r.size)
  | .call _ as => 1 + as.size
def Parts.size : Parts → Nat
  | .nil => 0
  | .cons p r => p.size + r.size
end
mutual
def Part.dep : Part → Nat
  | .num _ => 1
  | .name _ => 1
  | .add a b => 1 + max a.dep b.dep
  | .less a b => 1 + max a.dep b.dep
  | .ite c a b => 1 + max c.dep (max a.dep b.dep)
  | .say a => 1 + a.dep
  | .lt _ a b => 1 + max a.dep b.dep
  | .fn _ _ b r => 1 + max b.dep r.dep
  | .call _ as => 1 + as.dep
def Parts.dep : Parts → Nat
  | .nil => 0
  | .cons p r => max p.dep r.dep
end
theorem size_pos (p : Part) : 1 ≤ p.size := by cases p <;> simp [Part.size] <;> omega
theorem dep_pos (p : Part) : 1 ≤ p.dep := by cases p <;> simp [Part.dep] <;> omega
/-- the parts that stand straight in a part -/
def Part.inner : Part → List Part
  | .num _ => []
  | .name _ => []
  | .add a b => [a, b]
  | .less a b => [a, b]
  | .ite c a b => [c, a, b]
  | .say a => [a]
  | .lt _ a b => [a, b]
  | .fn _ _ b r => [b, r]
  | .call _ as => as.list
def sizesL : List Part → Nat
  | [] => 0
  | p :: r => p.size + sizesL r
theorem sizesL_list : ∀ as : Parts, sizesL as.list = as.size
  | .nil => rfl
  | .cons p r => by rw [Parts.list, sizesL, Parts.size, sizesL_list r]
theorem size_inner (p : Part) : p.size = 1 + sizesL p.inner := by
  cases p <;> simp [Part.size, Part.inner, sizesL, sizesL_list]
theorem dep_list : ∀ (as : Parts) (q : Part), q ∈ as.list → q.dep ≤ as.dep
  | .nil, q, h => by simp [Parts.list] at h
  | .cons p r, q, h => by
    have h' : q = p ∨ q ∈ r.list := by simpa [Parts.list] using h
    have e : (Parts.cons p r).dep = max p.dep r.dep := by simp [Parts.dep]
    rcases h' with rfl | h'
    · omega
    · have := dep_list r q h'; omega
theorem dep_inner (p q : Part) (h : q ∈ p.inner) : q.dep + 1 ≤ p.dep := by
  cases p with
  | num n => simp [Part.inner] at h
  | name x => simp [Part.inner] at h
  | add a b => simp [Part.inner] at h; rcases h with rfl | rfl <;> simp [Part.dep] <;> omega
  | less a b => simp [Part.inner] at h; rcases h with rfl | rfl <;> simp [Part.dep] <;> omega
  | ite c a b => simp [Part.inner] at h; rcases h with rfl | rfl | rfl <;> simp [Part.dep] <;> omega
  | say a => simp [Part.inner] at h; subst h; simp [Part.dep]; omega
  | lt x a b => simp [Part.inner] at h; rcases h with rfl | rfl <;> simp [Part.dep] <;> omega
  | fn f ps b r => simp [Part.inner] at h; rcases h with rfl | rfl <;> simp [Part.dep] <;> omega
  | call f as => have := dep_list as q (by simpa [Part.inner] using h); simp [Part.dep]; omega

/-! ### names -/
def wordB (x : Str) : Bool := decide (1 ≤ x.length) && decide (x.length ≤ 4) && x.cps.all (fun c => decide (97 ≤ c) && decide (c ≤ 122))
abbrev FE0 := Str → Option Nat
def putN {α : Type} (fs : Str → Option α) (f : Str) (n : α) : Str → Option α := fun g => if g = f then some n else fs g
mutual
def Part.ok : Part → List Str → FE0 → Prop
  | .num n, _, _ => 0 ≤ n ∧ n ≤ 99
  | .name x, ns, _ => x ∈ ns
  | .add a b, ns, fs => a.ok ns fs ∧ b.ok ns fs
  | .less a b, ns, fs => a.ok ns fs ∧ b.ok ns fs
  | .ite c a b, ns, fs => c.ok ns fs ∧ a.ok ns fs ∧ b.ok ns fs
  | .say a, ns, fs => a.ok ns fs
  | .lt x a b, ns, fs => wordB x = true ∧ a.ok ns fs ∧ b.ok (ns ++ [x]) fs
  | .fn f ps b r, ns, fs => wordB f = true ∧ ps.length ≤ 12 ∧ ps.Nodup ∧ (∀ x ∈ ps, wordB x = true) ∧ b.ok (ns ++ ps) fs ∧ r.ok ns (putN fs f ps.length)
  | .call f as, ns, fs => fs f = some as.len ∧ as.ok ns fs
def Parts.ok : Parts → List Str → FE0 → Prop
  | .nil, _, _ => True
  | .cons p r, ns, fs => p.ok ns fs ∧ r.ok ns fs
end
/-! ### programs as the law draws them -/
inductive Leaf (names : List Str) : Part → Prop
  | num {n : Int} : 0 ≤ n → n ≤ 99 → Leaf names (.num n)
  | name {x : Str} : x ∈ names → Leaf names (.name x)
def known (funs : List (Str × Nat)) (f : Str) (n : Nat) : List (Str × Nat) := funs.filter (fun e => !decide (e.1 = f)) ++ [(f, n)]
inductive Gen (ws : List Str) : Int → List Str → List (Str × Nat) → Part → Prop
  | leaf {d names funs p} : Leaf names p → Gen ws d names funs p
  | fn {d names funs f ps b r} : 0 < d → f ∈ ws → ps.Nodup → (∀ x ∈ ps, x ∈ ws) → ps.length ≤ 4 → Gen ws (d - 1) (names ++ ps) funs b → Gen ws (d - 1) names (known funs f ps.length) r → Gen ws d names funs (.fn f ps b r)
  | fnc {d names funs f ps b r w l} {as : List Part} : 0 < d → f ∈ ws → ps.Nodup → (∀ x ∈ ps, x ∈ ws) → ps.length ≤ 4 → Gen ws (d - 1) (names ++ ps) funs b → Gen ws (d - 1) names (known funs f ps.length) r →
      w ∈ ws → Leaf names l → (∀ a ∈ as, Leaf names a) → as.length = ps.length → Gen ws d names funs (.fn f ps b (.add r (.lt w l (.call f (Parts.of as)))))
  | lt {d names funs x a b} : 0 < d → x ∈ ws → Gen ws (d - 2) names funs a → Gen ws (d - 1) (names ++ [x]) funs b → Gen ws d names funs (.lt x a b)
  | call {d names funs f} {as : List Part} : 0 < d → (f, as.length) ∈ funs → (∀ a ∈ as, Gen ws (d - 2) names funs a) → Gen ws d names funs (.call f (Parts.of as))
  | say {d names funs a} : 0 < d → Gen ws (d - 1) names funs a → Gen ws d names funs (.say a)
  | ite {d names funs c a l} : 0 < d → Gen ws (d - 2) names funs c → Gen ws (d - 2) names funs a → Leaf names l → Gen ws d names funs (.ite c a l)
  | add {d names funs a b} : 0 < d → Gen ws (d - 2) names funs a → Gen ws (d - 2) names funs b → Gen ws d names funs (.add a b)
  | less {d names funs a b} : 0 < d → Gen ws (d - 2) names funs a → Gen ws (d - 2) names funs b → Gen ws d names funs (.less a b)
def lk (funs : List (Str × Nat)) : FE0 := fun f => funs.lookup f
theorem lookup_mem {α : Type} : ∀ {l : List (Str × α)} {f : Str} {n : α}, (l.map (·.1)).Nodup → (f, n) ∈ l → l.lookup f = some n
  | (g, m) :: r, f, n, hd, h => by
    have hd' : ¬ g ∈ r.map (·.1) ∧ (r.map (·.1)).Nodup := List.nodup_cons.mp hd
    rcases List.mem_cons.mp h with e | h
    · cases e; simp [List.lookup]
    · have hne : f ≠ g := fun e => hd'.1 (by rw [← e]; exact List.mem_map.mpr ⟨(f, n), h, rfl⟩)
      have : (f == g) = false := by simpa using hne
      rw [List.lookup, this]
      exact lookup_mem hd'.2 h
theorem lookup_app {α : Type} : ∀ (l : List (Str × α)) (m : List (Str × α)) (f : Str), (l ++ m).lookup f = (l.lookup f).or (m.lookup f)
  | [], m, f => by simp [List.lookup]
  | (g, n) :: r, m, f => by
    by_cases e : f = g
    · subst e; simp [List.lookup]
    · have q : (f == g) = false := by simpa using e
      simp only [List.cons_append, List.lookup, q]
      exact lookup_app r m f
theorem lookup_filt {α : Type} (f : Str) : ∀ (l : List (Str × α)) (g : Str), (l.filter (fun e => !decide (e.1 = f))).lookup g = if g = f then none else l.lookup g
  | [], g => by simp [List.lookup]
  | (h, n) :: r, g => by
    by_cases e : h = f
    · subst e
      rw [List.filter_cons_of_neg (by simp), lookup_filt h r g]
      by_cases q : g = h
      · simp [q]
      · have q' : (g == h) = false := by simpa using q
        simp [q, List.lookup, q']
    · rw [List.filter_cons_of_pos (by simp [e])]
      by_cases q : g = h
      · subst q; simp [List.lookup, e]
      · have q' : (g == h) = false := by simpa using q
        simp only [List.lookup, q']
        exact lookup_filt f r g
theorem lk_known (funs : List (Str × Nat)) (f : Str) (n : Nat) : lk (known funs f n) = putN (lk funs) f n := by
  funext g
  unfold lk known putN
  rw [lookup_app, lookup_filt]
  by_cases e : g = f
  · subst e; simp [List.lookup]
  · have q : (g == f) = false := by simpa using e
    simp [e, List.lookup, q]
theorem known_nodup {funs : List (Str × Nat)} {f : Str} {n : Nat} (h : (funs.map (·.1)).Nodup) : ((known funs f n).map (·.1)).Nodup := by
  unfold known
  rw [List.map_append]
  refine List.nodup_append.mpr ⟨?_, by simp, ?_⟩
  · exact (List.Sublist.map _ List.filter_sublist).nodup h
  · intro a ha b hb e
    obtain ⟨x, hx, rfl⟩ := List.mem_map.mp ha
    have : (x.1 ≠ f) := by simpa using (List.mem_filter.mp hx).2
    simp at hb
    exact this (e.trans hb)
theorem known_len (funs : List (Str × Nat)) (f : Str) (n : Nat) : (known funs f n).length ≤ funs.length + 1 := by
  unfold known
  have := List.length_filter_le (fun e : Str × Nat => !decide (e.1 = f)) funs
  simp only [List.length_append, List.length_singleton]
  omega
theorem leaf_ok {names p} (h : Leaf names p) (fs : FE0) : p.ok names fs := by
  cases h with
  | num h0 h1 => simp only [Part.ok]; exact ⟨h0, h1⟩
  | name h => simpa only [Part.ok] using h
theorem parts_ok : ∀ {l : List Part} {names : List Str} {fs : FE0}, (∀ a ∈ l, a.ok names fs) → (Parts.of l).ok names fs
  | [], _, _, _ => by simp [Parts.of, Parts.ok]
  | p :: r, _, _, h => by
    simp only [Parts.of, Parts.ok]
    exact ⟨h p (by simp), parts_ok fun a ha => h a (List.mem_cons_of_mem _ ha)⟩
theorem gen_ok {ws : List Str} (hw : ∀ x ∈ ws, wordB x = true) {d names funs p} (h : Gen ws d names funs p) : (funs.map (·.1)).Nodup → p.ok names (lk funs) := by
  induction h with
  | leaf h => intro _; exact leaf_ok h _
  | fn h0 hf hn hp hl _ _ ib ir => intro q; simp only [Part.ok]; exact ⟨hw _ hf, by omega, hn, fun x hx => hw _ (hp x hx), ib q, by rw [← lk_known]; exact ir (known_nodup q)⟩
  | fnc h0 hf hn hp hl _ _ hx hle has hlen ib ir =>
    intro q
    simp only [Part.ok]
    have ir' := ir (known_nodup q)
    rw [lk_known] at ir'
    exact ⟨hw _ hf, by omega, hn, fun x hx => hw _ (hp x hx), ib q, ir', hw _ hx, leaf_ok hle _, by simp [putN, Parts.len_of, hlen], parts_ok fun a ha => leaf_ok (by
      cases has a ha with
      | num h0 h1 => exact .num h0 h1
      | name h => exact .name (List.mem_append_left _ h)) _⟩
  | lt h0 hx _ _ ia ib => intro q; simp only [Part.ok]; exact ⟨hw _ hx, ia q, ib q⟩
  | call h0 hm _ ih => intro q; simp only [Part.ok]; exact ⟨by rw [Parts.len_of]; exact lookup_mem q hm, parts_ok fun a ha => ih a ha q⟩
  | say _ _ ih => intro q; simp only [Part.ok]; exact ih q
  | ite _ _ _ hl ic ia => intro q; simp only [Part.ok]; exact ⟨ic q, ia q, leaf_ok hl _⟩
  | add _ _ _ ia ib => intro q; simp only [Part.ok]; exact ⟨ia q, ib q⟩
  | less _ _ _ ia ib => intro q; simp only [Part.ok]; exact ⟨ia q, ib q⟩
def gdep (d : Int) : Nat := if d ≤ 0 then 1 else 3 + 2 * d.toNat
theorem leaf_dep {names p} (h : Leaf names p) : p.dep = 1 := by cases h <;> simp [Part.dep]
theorem parts_dep : ∀ {l : List Part} {n : Nat}, (∀ a ∈ l, a.dep ≤ n) → (Parts.of l).dep ≤ n
  | [], _, _ => by simp [Parts.of, Parts.dep]
  | p :: r, n, h => by
    have h1 := h p (by simp)
    have h2 : (Parts.of r).dep ≤ n := parts_dep fun a ha => h a (List.mem_cons_of_mem _ ha)
    simp only [Parts.of, Parts.dep]; omega
theorem gdep_le {d : Int} (h : 0 < d) : 1 ≤ gdep (d - 1) ∧ 1 ≤ gdep (d - 2) ∧ gdep (d - 1) + 2 ≤ gdep d ∧ gdep (d - 2) + 2 ≤ gdep d ∧ 5 ≤ gdep d := by
  unfold gdep
  repeat' split
  all_goals omega
theorem gen_dep {ws : List Str} {d names funs p} (h : Gen ws d names funs p) : p.dep ≤ gdep d := by
  have pos : ∀ d, 1 ≤ gdep d := fun d => by unfold gdep; split <;> omega
  induction h with
  | leaf h => rw [leaf_dep h]; exact pos _
  | fn h0 _ _ _ _ _ _ ib ir => have := gdep_le h0; simp only [Part.dep]; omega
  | fnc h0 _ _ _ _ _ _ _ hle has _ ib ir =>
    have := gdep_le h0
    have h1 := leaf_dep hle
    have h2 := parts_dep (n := 1) fun a ha => Nat.le_of_eq (leaf_dep (has a ha))
    simp only [Part.dep]; omega
  | lt h0 _ _ _ ia ib => have := gdep_le h0; simp only [Part.dep]; omega
  | @call d names funs f as h0 _ _ ih =>
    have := gdep_le h0
    have h2 := parts_dep (n := gdep (d - 2)) ih
    simp only [Part.dep]; omega
  | say h0 _ ih => have := gdep_le h0; simp only [Part.dep]; omega
  | ite h0 _ _ hl ic ia => have := gdep_le h0; have h1 := leaf_dep hl; simp only [Part.dep]; omega
  | add h0 _ _ ia ib => have := gdep_le h0; simp only [Part.dep]; omega
  | less h0 _ _ ia ib => have := gdep_le h0; simp only [Part.dep]; omega
end BN
namespace BN
open PySem L2
/-! ### how wide -/
mutual
def Part.wid : Part → Nat
  | .num _ => 0
  | .name _ => 0
  | .add a b => max a.wid b.wid
  | .less a b => max a.wid b.wid
  | .ite c a b => max c.wid (max a.wid b.wid)
  | .say a => a.wid
  | .lt _ a b => max a.wid b.wid
  | .fn _ ps b r => max ps.length (max b.wid r.wid)
  | .call _ as => max as.len as.wid
def Parts.wid : Parts → Nat
  | .nil => 0
  | .cons p r => max p.wid r.wid
end
theorem wid_list : ∀ (as : Parts) (q : Part), q ∈ as.list → q.wid ≤ as.wid
  | .nil, q, h => by simp [Parts.list] at h
  | .cons p r, q, h => by
    have h' : q = p ∨ q ∈ r.list := by simpa [Parts.list] using h
    have e : (Parts.cons p r).wid = max p.wid r.wid := by simp [Parts.wid]
    rcases h' with rfl | h'
    · omega
    · have := wid_list r q h'; omega
theorem wid_inner (p q : Part) (h : q ∈ p.inner) : q.wid ≤ p.wid := by
  cases p with
  | num n => simp [Part.inner] at h
  | name x => simp [Part.inner] at h
  | add a b => simp [Part.inner] at h; rcases h with rfl | rfl <;> simp [Part.wid] <;> omega
  | less a b => simp [Part.inner] at h; rcases h with rfl | rfl <;> simp [Part.wid] <;> omega
  | ite c a b => simp [Part.inner] at h; rcases h with rfl | rfl | rfl <;> simp [Part.wid] <;> omega
  | say a => simp [Part.inner] at h; subst h; simp [Part.wid]
  | lt x a b => simp [Part.inner] at h; rcases h with rfl | rfl <;> simp [Part.wid] <;> omega
  | fn f ps b r => simp [Part.inner] at h; rcases h with rfl | rfl <;> simp [Part.wid] <;> omega
  | call f as => have := wid_list as q (by simpa [Part.inner] using h); simp [Part.wid]; omega
theorem len_inner (p : Part) : p.inner.length ≤ max 3 p.wid := by
  cases p <;> simp [Part.inner, Part.wid, Parts.list_len] <;> omega
theorem parts_wid : ∀ {l : List Part} {n : Nat}, (∀ a ∈ l, a.wid ≤ n) → (Parts.of l).wid ≤ n
  | [], _, _ => by simp [Parts.of, Parts.wid]
  | p :: r, n, h => by
    have h1 := h p (by simp)
    have h2 : (Parts.of r).wid ≤ n := parts_wid fun a ha => h a (List.mem_cons_of_mem _ ha)
    simp only [Parts.of, Parts.wid]; omega
theorem leaf_wid {names p} (h : Leaf names p) : p.wid = 0 := by cases h <;> simp [Part.wid]
theorem gen_wid {ws : List Str} {d names funs p} (h : Gen ws d names funs p) : (∀ e ∈ funs, e.2 ≤ 4) → p.wid ≤ 4 := by
  have kn : ∀ {funs : List (Str × Nat)} {f : Str} {n : Nat}, n ≤ 4 → (∀ e ∈ funs, e.2 ≤ 4) → ∀ e ∈ known funs f n, e.2 ≤ 4 := fun h0 h e he => by
    rcases List.mem_append.mp he with q | q
    · exact h e (List.mem_filter.mp q).1
    · rw [List.mem_singleton.mp q]; exact h0
  induction h with
  | leaf h => intro _; rw [leaf_wid h]; omega
  | fn _ _ _ _ hl _ _ ib ir => intro q; have h1 := ib q; have h2 := ir (kn hl q); simp only [Part.wid]; omega
  | fnc _ _ _ _ hl _ _ _ hle has hlen ib ir =>
    intro q
    have h1 := ib q
    have h2 := ir (kn hl q)
    have h3 := leaf_wid hle
    have h4 := parts_wid (n := 0) fun a ha => Nat.le_of_eq (leaf_wid (has a ha))
    simp only [Part.wid, Parts.len_of]; omega
  | lt _ _ _ _ ia ib => intro q; have h1 := ia q; have h2 := ib q; simp only [Part.wid]; omega
  | @call d names funs f as _ hm _ ih =>
    intro q
    have h1 := q _ hm
    have h2 := parts_wid (n := 4) fun a ha => ih a ha q
    have h3 : as.length ≤ 4 := h1
    simp only [Part.wid, Parts.len_of]; omega
  | say _ _ ih => intro q; have := ih q; simp only [Part.wid]; omega
  | ite _ _ _ hl ic ia => intro q; have h1 := ic q; have h2 := ia q; have h3 := leaf_wid hl; simp only [Part.wid]; omega
  | add _ _ _ ia ib => intro q; have h1 := ia q; have h2 := ib q; simp only [Part.wid]; omega
  | less _ _ _ ia ib => intro q; have h1 := ia q; have h2 := ib q; simp only [Part.wid]; omega
mutual
def wd : PyData → Nat
  | .list ds => max ds.length (wds ds)
  | .tuple ds => max ds.length (wds ds)
  | _ => 0
def wds : List PyData → Nat
  | [] => 0
  | d :: r => max (wd d) (wds r)
end
theorem wds_mem : ∀ {ds : List PyData} {d : PyData}, d ∈ ds → wd d ≤ wds ds
  | e :: r, d, h => by
    have q : wds (e :: r) = max (wd e) (wds r) := by simp [wds]
    rcases List.mem_cons.mp h with rfl | h
    · omega
    · have := wds_mem h; omega
theorem dep_mem : ∀ {ds : List PyData} {d : PyData}, d ∈ ds → d.depth ≤ PyData.depthAll ds
  | e :: r, d, h => by
    have q : PyData.depthAll (e :: r) = max e.depth (PyData.depthAll r) := by simp [PyData.depthAll]
    rcases List.mem_cons.mp h with rfl | h
    · omega
    · have := dep_mem h; omega
end BN
namespace BN
open PySem L2 PyProof.Rows
/-! ### short words for readings -/
abbrev oAdd : R2 := rI0 fun i j => .int (i + j)
abbrev oSub : R2 := rI0 fun i j => .int (i - j)
abbrev oMul : R2 := rI CMul fun i j => .int (i * j)
abbrev oDiv : R2 := rI CDiv fun i j => .int (i / j)
abbrev oMod : R2 := rI (fun _ j => 0 < j) fun i j => .int (i % j)
abbrev oLt : R2 := rI0 fun i j => .bl (decide (i < j))
abbrev oLe : R2 := rI0 fun i j => .bl (decide (i ≤ j))
abbrev oGt : R2 := rI0 fun i j => .bl (decide (j < i))
abbrev oGe : R2 := rI0 fun i j => .bl (decide (j ≤ i))
abbrev oNeg : V → Hp → VK → Prop := rU fun i => .int (-i)
abbrev oAddS : R2 := fun x y H Q => ∃ i j, x = .str i ∧ y = .str j ∧ i.length + j.length ≤ sizeLine ∧ Q (.str (i ++ j)) H
abbrev rLenSq (K : PySem.W.Frag) : List V → Hp → VK → Prop := fun xs H Q => ∃ p ys, xs = [.ref p] ∧ (SqL K H p ys ∨ SqT K H p ys) ∧ Q (.int ys.length) H
abbrev rLenStr : List V → Hp → VK → Prop := fun xs H Q => ∃ z, xs = [.str z] ∧ z.length ≤ sizeLine ∧ Q (.int z.length) H
abbrev rInt1 : List V → Hp → VK → Prop := fun xs H Q => (∃ i, xs = [.int i] ∧ Q (.int i) H) ∨ ∃ k, xs = [.bl k] ∧ Q (.int (if k then 1 else 0)) H
abbrev rStrI : List V → Hp → VK → Prop := fun xs H Q => ∃ i, xs = [.int i] ∧ i.natAbs.log2 < 1920 ∧ Q (.str (toString i)) H
abbrev rIntS : List V → Hp → VK → Prop := fun xs H Q => ∃ (a : Str) (n : Int), xs = [.str a] ∧ PySem.intText? a = some n ∧ a.length ≤ 640 ∧ Q (.int n) H
abbrev rListSq (K : PySem.W.Frag) : List V → Hp → VK → Prop := fun xs H Q => ∃ p ys, xs = [.ref p] ∧ (SqL K H p ys ∨ SqT K H p ys) ∧ ∀ l, H l = none → Q (.ref l) (upd H l (.lst ys))
abbrev rTupSq (K : PySem.W.Frag) : List V → Hp → VK → Prop := fun xs H Q => ∃ p ys, xs = [.ref p] ∧ ((SqL K H p ys ∧ ∀ l, H l = none → Q (.ref l) (upd H l (.tup ys))) ∨ (SqT K H p ys ∧ Q (.ref p) H))
abbrev rDictD : List V → Hp → VK → Prop := fun xs H Q => ∃ (a : Addr) (kvs : List (Key × V)), xs = [.ref a] ∧ Rd H a (.dK kvs) ∧ ∀ p, H p = none → Q (.ref p) (upd H p (.dK kvs))
abbrev rListD : List V → Hp → VK → Prop := fun xs H Q => ∃ (a : Addr) (kvs : List (Key × V)), xs = [.ref a] ∧ Rd H a (.dK kvs) ∧ ∀ p, H p = none → Q (.ref p) (upd H p (.lst (kvs.map fun kv => kV kv.1)))
abbrev rInW (K : PySem.W.Frag) (d : Addr) : R2 := fun x y H Q => ∃ (z : Str) (r : Option Value), x = .str z ∧ y = .ref d ∧ PySem.W.nsIn K d z = some r ∧ Q (.bl r.isSome) H
abbrev rNotInW (K : PySem.W.Frag) (d : Addr) : R2 := fun x y H Q => ∃ (z : Str) (r : Option Value), x = .str z ∧ y = .ref d ∧ PySem.W.nsIn K d z = some r ∧ Q (.bl (!r.isSome)) H
theorem pe_mk0 {X : Cx} {k j : Nat} {C : Addr} {x : Str} {sp : Sp} {dvs : List V} {p pos : Pos} (c : C8.Mak X.prog X.w X.K X.mg X.base k x C sp dvs) (hr : Room j X.A) (hk : k + 1 ≤ j) (hg : Gl X x) (hdb : (x == ("__debug__" : Str)) = false := by decide) :
    PE X (.Call (.Name x p) [] [] pos) (tMake C sp dvs C8.E0 tNil) := by
  obtain ⟨f, fd, ps, ds, M, F, hm, b, d⟩ := c.ex
  exact pe_make0 M F (hr.mono hk) hg hm b d C8.pass0 hdb
theorem one_sz {n : Nat} (h : n ≤ 1000) : n ≤ sizeLine := Nat.le_of_lt (small1000 h)
/-- over a text, as it stands -/
theorem lc_str {x : Str} {g : TG} {tt : TT} {te : TE} {vs : List Nat} {σ : L2.St} {H1 : Hp} {D : Addr} {Qd : Hp → Prop} (Pv : Nat → Hp → Prop) (h0 : Pv 0 (upd H1 D (.lst [])))
    (hs : ∀ i c H, x.cps[i]? = some c → Pv i H → g (.str ⟨#[c]⟩) (wipe σ vs) H fun σ2 H2 => wipe σ2 vs = wipe σ vs ∧ tt σ2 H2 fun b H3 =>
      if b = true then te σ2 H3 fun y H4 => ∃ acc, H4 D = some (.lst acc) ∧ acc.length < sizeLine ∧ Pv (i + 1) (upd H4 D (.lst (acc ++ [y]))) else Pv (i + 1) H3) (hd : ∀ H, Pv x.cps.size H → Qd H) :
    ∃ W : Nat → Nat → Hp → Prop, (∃ m, W 0 m (upd H1 D (.lst []))) ∧ ∀ i m H, W i m H →
      ((Its x).stop i H ∧ Qd H) ∨ ((Its x).go i H ∧ ∃ Nx : Hp → Prop, (∀ H', Nx H' → ∃ m', m' < m ∧ W (i + 1) m' H') ∧ ∀ y H', (Its x).yld i H y H' → g y (wipe σ vs) H' fun σ2 H2 => wipe σ2 vs = wipe σ vs ∧ tt σ2 H2 fun b H3 =>
        if b = true then te σ2 H3 fun y H4 => ∃ acc, H4 D = some (.lst acc) ∧ acc.length < sizeLine ∧ Nx (upd H4 D (.lst (acc ++ [y]))) else Nx H3) := by
  refine ⟨fun i m H => m = x.cps.size - i ∧ i ≤ x.cps.size ∧ Pv i H, ⟨x.cps.size, by simp, Nat.zero_le _, h0⟩, ?_⟩
  rintro i m H ⟨rfl, hi, p⟩
  by_cases hlt : i < x.cps.size
  · refine .inr ⟨hlt, Pv (i + 1), fun H' p' => ⟨x.cps.size - (i + 1), by omega, rfl, hlt, p'⟩, fun y H' q => ?_⟩
    obtain ⟨e, c, hc, ey⟩ := q
    subst e ey
    exact hs i c _ hc p
  · have e : i = x.cps.size := by omega
    subst e
    exact .inl ⟨Nat.le_refl _, hd H p⟩
/-- one more of a list, by its place -/
theorem take_more {α : Type} : ∀ {l : List α} {i : Nat} {x : α}, l[i]? = some x → l.take (i + 1) = l.take i ++ [x]
  | [], i, x, h => by simp at h
  | a :: l, 0, x, h => by
    have e : a = x := Option.some.inj h
    subst e; rfl
  | a :: l, i + 1, x, h => by
    have ih := take_more (l := l) (i := i) (x := x) h
    show a :: l.take (i + 1) = a :: l.take i ++ [x]
    rw [ih]; rfl
theorem map_at {α β : Type} {f : α → β} {l : List α} {i : Nat} {y : β} (h : (l.map f)[i]? = some y) : ∃ x, l[i]? = some x ∧ y = f x := by
  rw [List.getElem?_map] at h
  cases e : l[i]? with
  | none => rw [e] at h; cases h
  | some x => rw [e] at h; exact ⟨x, rfl, (Option.some.inj h).symm⟩
theorem at_lt {α : Type} {l : List α} {i : Nat} {x : α} (h : l[i]? = some x) : i < l.length := (List.getElem?_eq_some_iff.mp h).1
theorem get_lt {α : Type} {l : List α} {i : Nat} (h : i < l.length) : ∃ x, l[i]? = some x := ⟨l[i], List.getElem?_eq_getElem h⟩
theorem atI_int {α : Type} {l : List α} {i : Int} (h0 : 0 ≤ i) (h1 : i < l.length) : ∃ x, atI l i = some x ∧ l[i.toNat]? = some x := by
  obtain ⟨x, hx⟩ := get_lt (l := l) (i := i.toNat) (by omega)
  refine ⟨x, ?_, hx⟩
  have e : i = ((i.toNat : Nat) : Int) := by omega
  rw [e]
  exact atI_nat (by simpa using hx)
/-! ### the draws' box -/
def cB (bx il : Addr) : CP := fun a _ => a = bx ∨ a = il
structure Box (H : Hp) (bx il : Addr) : Prop where
  ex : ∃ (ns : List Int) (sd : Int), H bx = some (.lst [.ref il, .int sd]) ∧ H il = some (.lst (ns.map V.int)) ∧ ns.length ≤ 63
def Ls (H : Hp) (bx il a : Addr) (xs : List V) : Prop := H a = some (.lst xs) ∧ a ≠ bx ∧ a ≠ il
theorem Ls.fr {H H' : Hp} {bx il a : Addr} {xs : List V} (f : Fr (cB bx il) H H') (h : Ls H bx il a xs) : Ls H' bx il a xs :=
  ⟨f.at h.1 fun z => z.elim h.2.1 h.2.2, h.2⟩
theorem Ls.new {H : Hp} {bx il a : Addr} {xs : List V} (B : Box H bx il) (hp : H a = none) : Ls (upd H a (.lst xs)) bx il a xs := by
  obtain ⟨ns, sd, h1, h2, _⟩ := B.ex
  exact ⟨upd_same, (ne_of_none h1 hp).symm, (ne_of_none h2 hp).symm⟩
theorem Box.new {H : Hp} {bx il a : Addr} {o : HO} (B : Box H bx il) (hp : H a = none) : Box (upd H a o) bx il := by
  obtain ⟨ns, sd, h1, h2, h3⟩ := B.ex
  exact ⟨ns, sd, by rw [upd_ne (ne_of_none h1 hp)]; exact h1, by rw [upd_ne (ne_of_none h2 hp)]; exact h2, h3⟩
/-- what is new (in the heap ahead) may change -/
theorem Box.fresh {H H' : Hp} {bx il a : Addr} {o : HO} (B : Box H bx il) (B' : Box H' bx il) (hp : H a = none) : Box (upd H' a o) bx il := by
  obtain ⟨ns, sd, h1, h2, h3⟩ := B.ex
  obtain ⟨ns', sd', h1', h2', h3'⟩ := B'.ex
  exact ⟨ns', sd', by rw [upd_ne (ne_of_none h1 hp)]; exact h1', by rw [upd_ne (ne_of_none h2 hp)]; exact h2', h3'⟩
theorem Ls.sq {K : PySem.W.Frag} {H : Hp} {bx il a : Addr} {xs : List V} (h : Ls H bx il a xs) : SqL K H a xs := SqL.of h.1
theorem Box.ne {H : Hp} {bx il : Addr} (B : Box H bx il) : bx ≠ il := by
  obtain ⟨ns, sd, h1, h2, _⟩ := B.ex
  refine ne_of h1 h2 fun z => ?_
  injection z with z
  cases ns with
  | nil => cases z
  | cons n r => rw [List.map_cons] at z; injection z with z _; cases z
end BN
namespace BN
open PySem L2 PyProof.Rows
/-! ### the draws -/
def spBegun (K : PySem.W.Frag) : Sp := fun vs H Q _ => ∃ (a : Addr) (ns : List Int), vs = [.ref a] ∧ SqL K H a (ns.map V.int) ∧ ns.length ≤ 63 ∧
  ∀ bx il H', Fr c0 H H' → Box H' bx il → Q (.ref bx) H'
def spTake : Sp := fun vs H Q _ => ∃ (bx il : Addr) (m : Int), vs = [.ref bx, .int m] ∧ Box H bx il ∧ 0 < m ∧ m < 1073741824 ∧
  ∀ r H', 0 ≤ r → r < m → Fr (cB bx il) H H' → Box H' bx il → Q (.int r) H'
def t_begun (K : PySem.W.Frag) : TS :=
  (tSeq (tAsg (tC (.int 0)) (gName 1))
    (tSeq (tFor (iList K (tVar 0)) (gName 2) (tAsg (tOp oMod (tOp oAdd (tOp oAdd (tOp oMul (tVar 1) (tC (.int 48271))) (tOp oMul (tVar 2) (tC (.int 69621)))) (tC (.int 11))) (tC (.int 2147483647))) (gName 1)))
    (tRet (tLst (tCons (tCB (rListSq K) (tCons (tVar 0) tNil)) (tCons (tOp oMul (tVar 1) (tCB rInt1 (tCons (tOp oGt (tCB (rLenSq K) (tCons (tVar 0) tNil)) (tC (.int 2))) tNil))) tNil))))))
theorem pure_begun {K : PySem.W.Frag} (vs : List V) (H : Hp) (Q : VK) (E : XK) (h : spBegun K vs H Q E) : t_begun K { nx := fun _ H' => Q .non H', rt := Q } (start ["s", "t", "c"] vs) H := by
  obtain ⟨a, ns, rfl, hS, hl, k⟩ := h
  refine ⟨_, rfl, a, rfl, ⟨_, hS⟩, for_list (K := K) (a := a) (xs := ns.map V.int) (fun i σ H' => ∃ (z : Int) (v : Option V), σ = [some (.ref a), some (.int z), v] ∧ H' = H)
    ⟨0, none, rfl, rfl⟩ (fun i σ H' _ ⟨_, _, _, e⟩ => by subst e; exact hS) ?_ ?_⟩
  · rintro i y σ H' hi ⟨z, v, rfl, rfl⟩
    obtain ⟨u, _, rfl⟩ := map_at hi
    exact ⟨_, rfl, _, _, rfl, rfl, .inr ⟨by decide, by decide⟩, _, rfl, _, _, rfl, rfl, .inr ⟨by decide, by decide⟩, _, _, rfl, rfl, _, _, rfl, rfl, _, _, rfl, rfl, (by show (0 : Int) < 2147483647; decide), _, _, rfl, rfl⟩
  · rintro σ H' ⟨z, v, rfl, rfl⟩
    refine ⟨_, rfl, a, _, rfl, .inl hS, fun il hil => ?_⟩
    have f1 : Fr c0 H' (upd H' il (.lst (ns.map V.int))) := Fr.new hil
    refine ⟨_, rfl, _, rfl, a, _, rfl, .inl (f1.sqL (fun _ z => z) hS), _, _, rfl, rfl, .inr ⟨_, rfl, ?_⟩⟩
    refine ⟨_, _, rfl, rfl, ?_, one_sz (by show 2 ≤ 1000; decide), fun bx hbx => ?_⟩
    · right
      split <;> decide
    · refine k bx il _ (f1.trans (Fr.new hbx)) ⟨ns, _, upd_same, ?_, hl⟩
      rw [upd_ne (ne_of_none upd_same hbx)]
      exact upd_same
theorem canInts : ∀ l : List Int, PyData.canLayAll0 (l.map PyData.int) = true
  | [] => rfl
  | x :: r => by rw [List.map_cons, PyData.canLayAll0, canInts r]; rfl
theorem depInts : ∀ l : List Int, PyData.depthAll (l.map PyData.int) ≤ 1
  | [] => by simp [PyData.depthAll]
  | x :: r => by
    have := depInts r
    simp only [List.map_cons, PyData.depthAll, PyData.depth]
    omega
theorem shaped_ints (ns : List Int) : SeqAt.shaped (.list (ns.map PyData.int)) = true := by
  have h1 := canInts ns
  have h2 := depInts ns
  unfold SeqAt.shaped
  rw [Bool.and_eq_true, decide_eq_true_eq]
  refine ⟨by simpa [PyData.canLay0] using h1, ?_⟩
  show PyData.depth (.list (ns.map PyData.int)) ≤ 64
  rw [PyData.depth]
  omega
theorem ix0 {α : Type} {x : α} {r : List α} : ixN (x :: r).length 0 = some 0 := by
  unfold ixN
  rw [if_pos (Int.le_refl 0), if_pos (by rw [List.length_cons]; omega)]
  rfl
def t_take (K : PySem.W.Frag) : TS :=
  (tSeq (tIfS (tTest (tOp (rEqD K) (tOp (rIxL K) (tVar 0) (tC (.int 0))) (tLst tNil))) (tSeq (tAsg (tOp oMod (tOp oMul (tOp (rIxL K) (tVar 0) (tC (.int 1))) (tC (.int 48271))) (tC (.int 2147483647))) (gSub (tVar 0) (tC (.int 1)) rSetL))
    (tRet (tOp oMod (tOp oDiv (tOp (rIxL K) (tVar 0) (tC (.int 1))) (tC (.int 7))) (tVar 1)))) tNext)
    (tSeq (tAsg (tOp (rIxL K) (tOp (rIxL K) (tVar 0) (tC (.int 0))) (tC (.int 0))) (gName 2))
    (tSeq (tAsg (tOp oDiv (tVar 2) (tVar 1)) (gSub (tOp (rIxL K) (tVar 0) (tC (.int 0))) (tC (.int 0)) rSetL))
    (tSeq (tIfS (tOr (tTest (tOp rEq (tOp (rIxL K) (tOp (rIxL K) (tVar 0) (tC (.int 0))) (tC (.int 0))) (tC (.int 0)))) (tTest (tOp rEq (tOp (rIxL K) (tOp (rIxL K) (tVar 0) (tC (.int 0))) (tC (.int 0))) (tUn oNeg (tC (.int 1)))))) (tDrop (tBM K "list" rPopAt (tOp (rIxL K) (tVar 0) (tC (.int 0))) (tCons (tC (.int 0)) tNil))) tNext)
    (tRet (tOp oMod (tVar 2) (tVar 1)))))))
theorem pure_take {K : PySem.W.Frag} (vs : List V) (H : Hp) (Q : VK) (E : XK) (h : spTake vs H Q E) : t_take K { nx := fun _ H' => Q .non H', rt := Q } (start ["b", "m", "n"] vs) H := by
  obtain ⟨bx, il, m, rfl, B, m0, m1, k⟩ := h
  have nbi := B.ne
  obtain ⟨ns, sd, h1, h2, h3⟩ := B.ex
  refine ⟨_, rfl, bx, _, _, _, rfl, rfl, SqL.of h1, rfl, one_sz (Nat.zero_le _), fun p hp => ?_⟩
  have f1 : Fr (cB bx il) H (upd H p (.lst [])) := Fr.new hp
  have nbp := ne_of_none h1 hp
  have nip := ne_of_none h2 hp
  have g1 : (upd H p (.lst [])) bx = some (.lst [.ref il, .int sd]) := by rw [upd_ne nbp]; exact h1
  have g2 : (upd H p (.lst [])) il = some (.lst (ns.map V.int)) := by rw [upd_ne nip]; exact h2
  refine ⟨.list (ns.map .int), .list [], .lst (SqL.of g2) (DpAll.ints ns), .lst (SqL.of upd_same) .nil, ?_, rfl, _, rfl, ?_⟩
  · exact shaped_ints ns
  rw [eqv_lists_nil]
  cases ns with
  | nil =>
    refine iteT ?_
    refine ⟨_, rfl, bx, _, _, _, rfl, rfl, SqL.of g1, rfl, _, _, rfl, rfl, .inr ⟨by decide, by decide⟩, _, _, rfl, rfl, (by show (0 : Int) < 2147483647; decide), _, rfl, bx, _, _, 1, rfl, rfl, g1, rfl, ?_⟩
    have f2 := f1.trans (Fr.set (o' := .lst [.ref il, .int (sd * 48271 % 2147483647)]) g1 (Or.inl rfl) trivial)
    refine ⟨_, rfl, bx, _, _, _, rfl, rfl, SqL.of upd_same, rfl, _, _, rfl, rfl, ⟨by decide, by decide⟩, _, rfl, _, _, rfl, rfl, m0, ?_⟩
    refine k _ _ (Int.emod_nonneg _ (by omega)) (Int.emod_lt_of_pos _ m0) f2 ⟨[], _, upd_same, ?_, Nat.zero_le _⟩
    rw [upd_ne nbi.symm]
    exact g2
  | cons x r =>
    refine iteF ?_
    refine ⟨_, rfl, bx, _, _, _, rfl, rfl, SqL.of g1, rfl, il, _, _, _, rfl, rfl, SqL.of g2, atI_nat (j := 0) rfl, ?_⟩
    refine ⟨_, rfl, _, rfl, _, _, rfl, rfl, ⟨m0, m1⟩, _, rfl, bx, _, _, _, rfl, rfl, SqL.of g1, rfl, il, _, _, 0, rfl, rfl, g2, ix0, ?_⟩
    have e : ((x :: r).map V.int).set 0 (.int (x / m)) = ((x / m) :: r).map V.int := rfl
    show tSeq _ _ _ _ (upd (upd H p (.lst [])) il (.lst (((x :: r).map V.int).set 0 (.int (x / m)))))
    rw [e]
    have f2 := f1.trans (Fr.set (o' := .lst (((x / m) :: r).map V.int)) g2 (Or.inr rfl) trivial)
    have q1 : (upd (upd H p (.lst [])) il (.lst (((x / m) :: r).map V.int))) bx = some (.lst [.ref il, .int sd]) := by rw [upd_ne nbi]; exact g1
    have q2 : (upd (upd H p (.lst [])) il (.lst (((x / m) :: r).map V.int))) il = some (.lst (((x / m) :: r).map V.int)) := upd_same
    have fin : ∀ H', Fr (cB bx il) H H' → Box H' bx il → (tRet (tOp oMod (tVar 2) (tVar 1))) { nx := fun _ H' => Q .non H', rt := Q } [some (.ref bx), some (.int m), some (.int x)] H' := fun H' f b =>
      ⟨_, rfl, _, rfl, _, _, rfl, rfl, m0, k _ _ (Int.emod_nonneg _ (by omega)) (Int.emod_lt_of_pos _ m0) f b⟩
    refine ⟨_, rfl, bx, _, _, _, rfl, rfl, SqL.of q1, rfl, il, _, _, _, rfl, rfl, SqL.of q2, atI_nat (j := 0) rfl, rfl, _, rfl, ?_⟩
    have pop : (tDrop (tBM K "list" rPopAt (tOp (rIxL K) (tVar 0) (tC (.int 0))) (tCons (tC (.int 0)) tNil))) { nx := (tRet (tOp oMod (tVar 2) (tVar 1))) { nx := fun _ H' => Q .non H', rt := Q }, rt := Q } [some (.ref bx), some (.int m), some (.int x)] (upd (upd H p (.lst [])) il (.lst (((x / m) :: r).map V.int))) := by
      refine ⟨_, rfl, bx, _, _, _, rfl, rfl, SqL.of q1, rfl, .inl ⟨rfl, _, Or.inl (Or.inl q2)⟩, il, _, _, 0, _, rfl, rfl, q2, by decide, by decide, (ixN_seq ix0).1, rfl, ?_⟩
      refine fin _ (f2.trans (Fr.set q2 (Or.inr rfl) trivial)) ⟨r, sd, ?_, upd_same, ?_⟩
      · rw [upd_ne nbi]; exact q1
      · rw [List.length_cons] at h3; omega
    have stay : Box (upd (upd H p (.lst [])) il (.lst (((x / m) :: r).map V.int))) bx il := ⟨(x / m) :: r, sd, q1, q2, by rw [List.length_cons] at h3 ⊢; exact h3⟩
    refine ite2 (fun _ => iteT pop) (fun _ => ?_)
    refine ⟨_, rfl, bx, _, _, _, rfl, rfl, SqL.of q1, rfl, il, _, _, _, rfl, rfl, SqL.of q2, atI_nat (j := 0) rfl, _, rfl, rfl, _, rfl, ?_⟩
    refine ite2 (fun _ => pop) (fun _ => fin _ f2 stay)
end BN
namespace BN
open PySem L2 PyProof.Rows
theorem strOk_word {x : Str} (h : wordB x = true) : PyData.strOk x = true := by
  unfold wordB at h
  rw [Bool.and_eq_true] at h
  unfold PyData.strOk
  rw [Array.all_eq_true] at *
  intro i hi
  have := h.2 i hi
  simp only [Bool.and_eq_true, decide_eq_true_eq] at this ⊢
  omega
theorem canStrs : ∀ l : List Str, (∀ x ∈ l, PyData.strOk x = true) → PyData.canLayAll0 (l.map PyData.str) = true
  | [], _ => rfl
  | x :: r, h => by
    rw [List.map_cons, PyData.canLayAll0, canStrs r fun y hy => h y (List.mem_cons_of_mem _ hy)]
    have := h x (List.mem_cons_self ..)
    simpa [PyData.canLay0] using this
theorem depStrs : ∀ l : List Str, PyData.depthAll (l.map PyData.str) = 0
  | [] => by simp [PyData.depthAll]
  | x :: r => by simp only [List.map_cons, PyData.depthAll, PyData.depth, depStrs r]; rfl
theorem shaped_strs {l : List Str} (h : ∀ x ∈ l, PyData.strOk x = true) : SeqAt.shaped (.list (l.map PyData.str)) = true := by
  have h1 := canStrs l h
  unfold SeqAt.shaped
  rw [Bool.and_eq_true, decide_eq_true_eq]
  refine ⟨by simpa [PyData.canLay0] using h1, ?_⟩
  rw [PyData.depth, depStrs]; decide
/-! ### a leaf -/
def spLeaf (K : PySem.W.Frag) : Sp := fun vs H Q _ => ∃ (bx il nm : Addr) (names : List Str), vs = [.ref bx, .ref nm] ∧ Box H bx il ∧ Ls H bx il nm (names.map V.str) ∧ (∀ x ∈ names, wordB x = true) ∧ names.length ≤ 1000 ∧
  ∀ p v H', Leaf names p → Dp K H' v p.enc → Fr (cB bx il) H H' → Box H' bx il → Q v H'
def t_leaf (K : PySem.W.Frag) : TS :=
  (tSeq (tIfS (tOr (tTest (tOp (rEqD K) (tVar 1) (tLst tNil))) (tTest (tOp rEq (tCall spTake [] C8.E0 (tCons (tVar 0) (tCons (tC (.int 4)) tNil))) (tC (.int 1))))) (tRet (tTup (tCons (tC (.str "num")) (tCons (tCall spTake [] C8.E0 (tCons (tVar 0) (tCons (tOp (rIxL K) (tLst (tCons (tC (.int 3)) (tCons (tC (.int 100)) tNil))) (tCB rInt1 (tCons (tOp rEq (tCall spTake [] C8.E0 (tCons (tVar 0) (tCons (tC (.int 3)) tNil))) (tC (.int 1))) tNil))) tNil))) tNil)))) tNext)
    (tRet (tTup (tCons (tC (.str "name")) (tCons (tOp (rIxL K) (tVar 1) (tOp oSub (tOp oSub (tCB (rLenSq K) (tCons (tVar 1) tNil)) (tC (.int 1))) (tCall spTake [] C8.E0 (tCons (tVar 0) (tCons (tCB (rLenSq K) (tCons (tVar 1) tNil)) tNil))))) tNil)))))
theorem pure_leaf {K : PySem.W.Frag} (vs : List V) (H : Hp) (Q : VK) (E : XK) (h : spLeaf K vs H Q E) : t_leaf K { nx := fun _ H' => Q .non H', rt := Q } (start ["b", "n"] vs) H := by
  obtain ⟨bx, il, nm, names, rfl, B, N, hw, hl, k⟩ := h
  have num : ∀ H1, Fr (cB bx il) H H1 → Box H1 bx il → (tRet (tTup (tCons (tC (.str "num")) (tCons (tCall spTake [] C8.E0 (tCons (tVar 0) (tCons (tOp (rIxL K) (tLst (tCons (tC (.int 3)) (tCons (tC (.int 100)) tNil))) (tCB rInt1 (tCons (tOp rEq (tCall spTake [] C8.E0 (tCons (tVar 0) (tCons (tC (.int 3)) tNil))) (tC (.int 1))) tNil))) tNil))) tNil))))
      { nx := fun _ H' => Q .non H', rt := Q } [some (.ref bx), some (.ref nm)] H1 := fun H1 f B1 => by
    refine ⟨_, rfl, one_sz (by show 2 ≤ 1000; decide), fun q hq => ?_⟩
    have f1 : Fr (cB bx il) H1 (upd H1 q (.lst [.int 3, .int 100])) := Fr.new hq
    have B2 : Box (upd H1 q (.lst [.int 3, .int 100])) bx il := B1.new hq
    have Lq : Ls (upd H1 q (.lst [.int 3, .int 100])) bx il q [.int 3, .int 100] := Ls.new B1 hq
    refine ⟨_, rfl, bx, il, 3, rfl, B2, by decide, by decide, fun r H3 r0 r3 f3 B3 => ⟨rfl, .inr ⟨_, rfl, ?_⟩⟩⟩
    have L3 := Lq.fr f3
    by_cases e : r = 1
    · subst e
      refine ⟨q, _, _, _, rfl, rfl, L3.sq, rfl, bx, il, 100, rfl, B3, by decide, by decide, fun r' H4 h0 h1 f4 B4 => ⟨one_sz (by show 2 ≤ 1000; decide), fun t ht => ?_⟩⟩
      exact k (.num r') _ _ (.num h0 (by omega)) (.tup (SqT.of upd_same) (.cons (.str _) (.cons (.int _) .nil))) ((((f.trans f1).trans f3).trans f4).trans (Fr.new ht)) (B4.new ht)
    · have d : decide (V.int r = V.int 1) = false := decide_eq_false fun z => e (V.int.inj z)
      rw [d]
      refine ⟨q, _, _, _, rfl, rfl, L3.sq, rfl, bx, il, 3, rfl, B3, by decide, by decide, fun r' H4 h0 h1 f4 B4 => ⟨one_sz (by show 2 ≤ 1000; decide), fun t ht => ?_⟩⟩
      exact k (.num r') _ _ (.num h0 (by omega)) (.tup (SqT.of upd_same) (.cons (.str _) (.cons (.int _) .nil))) ((((f.trans f1).trans f3).trans f4).trans (Fr.new ht)) (B4.new ht)
  refine ⟨_, rfl, one_sz (Nat.zero_le _), fun p hp => ?_⟩
  have f1 : Fr (cB bx il) H (upd H p (.lst [])) := Fr.new hp
  have B1 := B.new (o := .lst []) hp
  have N1 := N.fr f1
  refine ⟨.list (names.map .str), .list [], .lst N1.sq (DpAll.strs names), .lst (SqL.of upd_same) .nil, shaped_strs fun x hx => strOk_word (hw x hx), rfl, _, rfl, ?_⟩
  rw [eqv_lists_nil]
  cases names with
  | nil => exact iteT (num _ f1 B1)
  | cons x r =>
    refine iteF ⟨_, rfl, bx, il, 4, rfl, B1, by decide, by decide, fun z H2 z0 z1 f2 B2 => ⟨rfl, _, rfl, ?_⟩⟩
    refine ite2 (fun _ => num _ (f1.trans f2) B2) fun _ => ?_
    have N2 := N1.fr f2
    have ll : ((x :: r).map V.str).length = (x :: r).length := List.length_map _
    refine ⟨_, rfl, _, rfl, nm, _, rfl, .inl N2.sq, _, _, rfl, rfl, _, rfl, _, rfl, nm, _, rfl, .inl N2.sq, bx, il, _, rfl, B2, ?_, ?_, fun z' H3 h0 h1 f3 B3 => ?_⟩
    · rw [ll, List.length_cons]; omega
    · rw [ll]; omega
    rw [ll] at h1
    obtain ⟨y, hy, hy2⟩ := atI_int (l := (x :: r).map V.str) (i := (((x :: r).map V.str).length : Int) - 1 - z') (by rw [ll]; omega) (by rw [ll]; omega)
    obtain ⟨w, hw1, rfl⟩ := map_at hy2
    refine ⟨_, _, rfl, rfl, nm, _, _, _, rfl, rfl, (N2.fr f3).sq, hy, one_sz (by show 2 ≤ 1000; decide), fun t ht => ?_⟩
    exact k (.name w) _ _ (.name (List.mem_of_getElem? hw1)) (.tup (SqT.of upd_same) (.cons (.str _) (.cons (.str _) .nil))) (((f1.trans f2).trans f3).trans (Fr.new ht)) (B3.new ht)
end BN
namespace BN
open PySem L2 PyProof.Rows
/-! ### comprehensions whose items come one by one, each some data of tuples -/
theorem wipe1 (σ : L2.St) (j : Nat) (x : Option V) : wipe ((wipe σ [j]).set j x) [j] = wipe σ [j] := by
  show ((σ.set j none).set j x).set j none = σ.set j none
  rw [List.set_set, List.set_set]
structure LcI (K : PySem.W.Frag) (C : CP) (I : Hp → Prop) (D : Addr) (H1 : Hp) (Good : Nat → PyData → Prop) (i : Nat) (H' : Hp) : Prop where
  ex : ∃ (vs : List V) (ds : List PyData), H' D = some (.lst vs) ∧ DpAll K H' vs ds ∧ ds.length = i ∧ (∀ k d, ds[k]? = some d → Good k d ∧ tupD d = true) ∧ Fr C H1 H' ∧ I H'
section
variable {K : PySem.W.Frag} {C : CP} {I : Hp → Prop} {D : Addr} {H1 H' H'' : Hp} {Good : Nat → PyData → Prop} {i n : Nat}
theorem LcI.start (hI : ∀ H' D o, H1 D = none → I H' → I (upd H' D o)) (h0 : I H1) (hD : H1 D = none) : LcI K C I D H1 Good 0 (upd H1 D (.lst [])) :=
  ⟨[], [], upd_same, .nil, rfl, fun k d h => by simp at h, Fr.new hD, hI _ _ _ hD h0⟩
theorem LcI.step (hI : ∀ H' D o, H1 D = none → I H' → I (upd H' D o)) (hC : ∀ D o, H1 D = none → ¬ C D o) (hD : H1 D = none) (hi : i < 100000) (L : LcI K C I D H1 Good i H') {d : PyData} {y : V} (g : Good i d) (t : tupD d = true) (hd : Dp K H'' y d) (f : Fr C H' H'') (h : I H'') :
    ∃ acc, H'' D = some (.lst acc) ∧ acc.length < sizeLine ∧ LcI K C I D H1 Good (i + 1) (upd H'' D (.lst (acc ++ [y]))) := by
  obtain ⟨vs, ds, e, da, dl, dg, df, dI⟩ := L.ex
  have e2 := f.at e (hC D _ hD)
  have dt : tupDs ds = true := tupDs_all fun x hx => by
    obtain ⟨k, hk⟩ := List.getElem?_of_mem hx
    exact (dg k x hk).2
  have f2 : Fr (fun a _ => a = D) H'' (upd H'' D (.lst (vs ++ [y]))) := Fr.set e2 rfl trivial
  refine ⟨vs, e2, ?_, vs ++ [y], ds ++ [d], upd_same, ?_, ?_, ?_, (df.trans f).fresh hD, hI _ _ _ hD h⟩
  · rw [da.len, dl]
    exact Nat.lt_of_lt_of_le hi (by rw [sizeLine_eq]; decide)
  · exact (Dp.frs f2 _ _ dt (Dp.frs f _ _ dt da)).append (.cons (Dp.fr f2 _ _ t hd) .nil)
  · rw [List.length_append, dl]; rfl
  · intro k x hk
    by_cases hlt : k < ds.length
    · rw [List.getElem?_append_left hlt] at hk
      exact dg k x hk
    · rw [List.getElem?_append_right (by omega)] at hk
      have : k - ds.length = 0 := by
        cases q : k - ds.length with
        | zero => rfl
        | succ m => rw [q] at hk; simp at hk
      rw [this] at hk
      have e : d = x := by simpa using hk
      subst e
      have : k = i := by omega
      subst this
      exact ⟨g, t⟩
/-- what follows: the new list D -/
def LcQ (K : PySem.W.Frag) (C : CP) (I : Hp → Prop) (H1 : Hp) (Good : Nat → PyData → Prop) (n : Nat) (Q : Addr → Hp → Prop) : Prop :=
  ∀ D vs ds H', H1 D = none → H' D = some (.lst vs) → DpAll K H' vs ds → ds.length = n → (∀ k d, ds[k]? = some d → Good k d ∧ tupD d = true) → Fr C H1 H' → I H' → Q D H'
/-- one item -/
def LcE (K : PySem.W.Frag) (C : CP) (I : Hp → Prop) (H1 : Hp) (Good : Nat → PyData → Prop) (i : Nat) (te : TE) (σ : L2.St) : Prop :=
  ∀ H', Fr C H1 H' → I H' → ∀ Q : VK, (∀ d v H'', Good i d → tupD d = true → Dp K H'' v d → Fr C H' H'' → I H'' → Q v H'') → te σ H' Q
variable {te : TE} {σ : L2.St} {j : Nat} {Q : Addr → Hp → Prop}
theorem lcG_range (hI : ∀ H' D o, H1 D = none → I H' → I (upd H' D o)) (hC : ∀ D o, H1 D = none → ¬ C D o) (h0 : I H1) (hn : n ≤ 100000)
    (hte : ∀ i : Nat, i < n → LcE K C I H1 Good i te ((wipe σ [j]).set j (some (.int (0 + (i : Nat)))))) (hq : LcQ K C I H1 Good n Q) : ∀ D, H1 D = none →
    ∃ W : Nat → Nat → Hp → Prop, (∃ m, W 0 m (upd H1 D (.lst []))) ∧ ∀ i m H, W i m H →
      ((Itr 0 n).stop i H ∧ Q D H) ∨ ((Itr 0 n).go i H ∧ ∃ Nx : Hp → Prop, (∀ H', Nx H' → ∃ m', m' < m ∧ W (i + 1) m' H') ∧ ∀ x H', (Itr 0 n).yld i H x H' → gName j x (wipe σ [j]) H' fun σ2 H2 => wipe σ2 [j] = wipe σ [j] ∧ tYes σ2 H2 fun b H3 =>
        if b = true then te σ2 H3 fun y H4 => ∃ acc, H4 D = some (.lst acc) ∧ acc.length < sizeLine ∧ Nx (upd H4 D (.lst (acc ++ [y]))) else Nx H3) := fun D hD => by
  refine lc_range (lo := 0) (n := n) (Qd := fun H => Q D H) (LcI K C I D H1 Good) (LcI.start hI h0 hD) (fun i H' hi L => ⟨wipe1 _ _ _, ?_⟩) fun H' L => ?_
  · obtain ⟨vs, ds, e, da, dl, dg, df, dI⟩ := L.ex
    exact hte i hi H' df dI _ fun d v H'' g t hd f h => LcI.step hI hC hD (by omega) L g t hd f h
  · obtain ⟨vs, ds, e, da, dl, dg, df, dI⟩ := L.ex
    exact hq D vs ds H' hD e da dl dg df dI
theorem lcG_list {a : Addr} {xs : List V} (hx : SqL K H1 a xs) (ha : ∀ o, ¬ C a o) (hI : ∀ H' D o, H1 D = none → I H' → I (upd H' D o)) (hC : ∀ D o, H1 D = none → ¬ C D o) (h0 : I H1) (hn : xs.length ≤ 100000)
    (hte : ∀ i x, xs[i]? = some x → LcE K C I H1 Good i te ((wipe σ [j]).set j (some x))) (hq : LcQ K C I H1 Good xs.length Q) : ∀ D, H1 D = none →
    ∃ W : Nat → Nat → Hp → Prop, (∃ m, W 0 m (upd H1 D (.lst []))) ∧ ∀ i m H, W i m H →
      ((Itl K a).stop i H ∧ Q D H) ∨ ((Itl K a).go i H ∧ ∃ Nx : Hp → Prop, (∀ H', Nx H' → ∃ m', m' < m ∧ W (i + 1) m' H') ∧ ∀ x H', (Itl K a).yld i H x H' → gName j x (wipe σ [j]) H' fun σ2 H2 => wipe σ2 [j] = wipe σ [j] ∧ tYes σ2 H2 fun b H3 =>
        if b = true then te σ2 H3 fun y H4 => ∃ acc, H4 D = some (.lst acc) ∧ acc.length < sizeLine ∧ Nx (upd H4 D (.lst (acc ++ [y]))) else Nx H3) := fun D hD => by
  refine lc_list (K := K) (a := a) (xs := xs) (Qd := fun H => Q D H) (LcI K C I D H1 Good) (LcI.start hI h0 hD) (fun i H' _ L => by
    obtain ⟨vs, ds, e, da, dl, dg, df, dI⟩ := L.ex
    exact df.sqL ha hx) (fun i x H' hi L => ⟨wipe1 _ _ _, ?_⟩) fun H' L => ?_
  · obtain ⟨vs, ds, e, da, dl, dg, df, dI⟩ := L.ex
    have := at_lt hi
    exact hte i x hi H' df dI _ fun d v H'' g t hd f h => LcI.step hI hC hD (by omega) L g t hd f h
  · obtain ⟨vs, ds, e, da, dl, dg, df, dI⟩ := L.ex
    exact hq D vs ds H' hD e da dl dg df dI
theorem lcG_tup {a : Addr} {xs : List V} (hx : SqT K H1 a xs) (hI : ∀ H' D o, H1 D = none → I H' → I (upd H' D o)) (hC : ∀ D o, H1 D = none → ¬ C D o) (h0 : I H1) (hn : xs.length ≤ 100000)
    (hte : ∀ i x, xs[i]? = some x → LcE K C I H1 Good i te ((wipe σ [j]).set j (some x))) (hq : LcQ K C I H1 Good xs.length Q) : ∀ D, H1 D = none →
    ∃ W : Nat → Nat → Hp → Prop, (∃ m, W 0 m (upd H1 D (.lst []))) ∧ ∀ i m H, W i m H →
      ((Itt K a).stop i H ∧ Q D H) ∨ ((Itt K a).go i H ∧ ∃ Nx : Hp → Prop, (∀ H', Nx H' → ∃ m', m' < m ∧ W (i + 1) m' H') ∧ ∀ x H', (Itt K a).yld i H x H' → gName j x (wipe σ [j]) H' fun σ2 H2 => wipe σ2 [j] = wipe σ [j] ∧ tYes σ2 H2 fun b H3 =>
        if b = true then te σ2 H3 fun y H4 => ∃ acc, H4 D = some (.lst acc) ∧ acc.length < sizeLine ∧ Nx (upd H4 D (.lst (acc ++ [y]))) else Nx H3) := fun D hD => by
  refine lc_tup (K := K) (a := a) (xs := xs) (Qd := fun H => Q D H) (LcI K C I D H1 Good) (LcI.start hI h0 hD) (fun i H' _ L => by
    obtain ⟨vs, ds, e, da, dl, dg, df, dI⟩ := L.ex
    exact df.sqT hx) (fun i x H' hi L => ⟨wipe1 _ _ _, ?_⟩) fun H' L => ?_
  · obtain ⟨vs, ds, e, da, dl, dg, df, dI⟩ := L.ex
    have := at_lt hi
    exact hte i x hi H' df dI _ fun d v H'' g t hd f h => LcI.step hI hC hD (by omega) L g t hd f h
  · obtain ⟨vs, ds, e, da, dl, dg, df, dI⟩ := L.ex
    exact hq D vs ds H' hD e da dl dg df dI
end
/-- the box is such a thing -/
theorem box_up {H1 : Hp} {bx il : Addr} (B : Box H1 bx il) : ∀ H' D o, H1 D = none → Box H' bx il → Box (upd H' D o) bx il := fun _ _ _ hD B' => B.fresh B' hD
theorem box_no {H1 : Hp} {bx il : Addr} (B : Box H1 bx il) : ∀ (D : Addr) (o : HO), H1 D = none → ¬ cB bx il D o := fun D o hD z => by
  obtain ⟨ns, sd, h1, h2, _⟩ := B.ex
  rcases z with rfl | rfl
  · rw [h1] at hD; cases hD
  · rw [h2] at hD; cases hD
end BN
namespace BN
open PySem L2 PyProof.Rows
def encF (e : Str × Nat) : PyData := .tuple [.str e.1, .int e.2]
structure GenPre (K : PySem.W.Frag) (H : Hp) (bx il : Addr) (d : Int) (nm fn w : Addr) (names : List Str) (funs : List (Str × Nat)) (fv : List V) (ws : List Str) : Prop where
  box : Box H bx il
  nm : Ls H bx il nm (names.map V.str)
  nw : ∀ x ∈ names, wordB x = true
  fn : Ls H bx il fn fv
  fd : DpAll K H fv (funs.map encF)
  fw : ∀ e ∈ funs, wordB e.1 = true
  w : Ls H bx il w (ws.map V.str)
  ww : ∀ x ∈ ws, wordB x = true
  wd : ws.Nodup
  w3 : 3 ≤ ws.length
  w5 : ws.length ≤ 5
  ln : (names.length : Int) ≤ 5 * (10 - d)
  lf : (funs.length : Int) ≤ 10 - d
  ar : ∀ e ∈ funs, e.2 ≤ 4
  d0 : -1 ≤ d
  d5 : d ≤ 5
theorem tupDs_F (funs : List (Str × Nat)) : tupDs (funs.map encF) = true := tupDs_all fun d hd => by
  obtain ⟨x, _, rfl⟩ := List.mem_map.mp hd
  simp [encF, tupD, tupDs]
section
variable {K : PySem.W.Frag} {H H' : Hp} {bx il nm fn w p : Addr} {d d' : Int} {names : List Str} {funs : List (Str × Nat)} {fv : List V} {ws : List Str} {o : HO}
theorem GenPre.fr (P : GenPre K H bx il d nm fn w names funs fv ws) (f : Fr (cB bx il) H H') (B : Box H' bx il) : GenPre K H' bx il d nm fn w names funs fv ws :=
  ⟨B, P.nm.fr f, P.nw, P.fn.fr f, Dp.frs f _ _ (tupDs_F _) P.fd, P.fw, P.w.fr f, P.ww, P.wd, P.w3, P.w5, P.ln, P.lf, P.ar, P.d0, P.d5⟩
theorem GenPre.new (P : GenPre K H bx il d nm fn w names funs fv ws) (hp : H p = none) : GenPre K (upd H p o) bx il d nm fn w names funs fv ws := P.fr (Fr.new hp) (P.box.new hp)
theorem GenPre.down (P : GenPre K H bx il d nm fn w names funs fv ws) (h : d' ≤ d) (h0 : -1 ≤ d') : GenPre K H bx il d' nm fn w names funs fv ws :=
  ⟨P.box, P.nm, P.nw, P.fn, P.fd, P.fw, P.w, P.ww, P.wd, P.w3, P.w5, by have := P.ln; omega, by have := P.lf; omega, P.ar, h0, by have := P.d5; omega⟩
theorem GenPre.addN (P : GenPre K H bx il d nm fn w names funs fv ws) (hp : H p = none) {xs : List Str} (hx : ∀ x ∈ xs, wordB x = true) (hl : xs.length ≤ 5) (h : d' ≤ d - 1) (h0 : -1 ≤ d') :
    GenPre K (upd H p (.lst (names.map V.str ++ xs.map V.str))) bx il d' p fn w (names ++ xs) funs fv ws := by
  have Q := P.new (o := .lst (names.map V.str ++ xs.map V.str)) hp
  refine ⟨Q.box, by rw [List.map_append]; exact Ls.new P.box hp, fun x h => (List.mem_append.mp h).elim (P.nw x) (hx x), Q.fn, Q.fd, Q.fw, Q.w, Q.ww, Q.wd, Q.w3, Q.w5, ?_, by have := P.lf; omega, P.ar, h0, by have := P.d5; omega⟩
  have := P.ln
  rw [List.length_append]
  omega
theorem GenPre.addF (P : GenPre K H bx il d nm fn w names funs fv ws) {q : Addr} {gv : List V} {funs' : List (Str × Nat)} (hq : Ls H bx il q gv) (hd : DpAll K H gv (funs'.map encF)) (hw : ∀ e ∈ funs', wordB e.1 = true) (ha : ∀ e ∈ funs', e.2 ≤ 4) (hl : funs'.length ≤ funs.length + 1) (h : d' ≤ d - 1) (h0 : -1 ≤ d') :
    GenPre K H bx il d' nm q w names funs' gv ws :=
  ⟨P.box, P.nm, P.nw, hq, hd, hw, P.w, P.ww, P.wd, P.w3, P.w5, by have := P.ln; omega, by have := P.lf; omega, ha, h0, by have := P.d5; omega⟩
theorem GenPre.nl (P : GenPre K H bx il d nm fn w names funs fv ws) : names.length ≤ 55 := by
  have := P.ln; have := P.d0; omega
theorem GenPre.fl (P : GenPre K H bx il d nm fn w names funs fv ws) : funs.length ≤ 11 := by
  have := P.lf; have := P.d0; omega
end
def spPart (K : PySem.W.Frag) (n : Nat) : Sp := fun vs H Q _ => ∃ (bx il nm fn w : Addr) (d : Int) (names : List Str) (funs : List (Str × Nat)) (fv : List V) (ws : List Str), vs = [.ref bx, .int d, .ref nm, .ref fn, .ref w] ∧
  GenPre K H bx il d nm fn w names funs fv ws ∧ d + 2 ≤ n ∧ ∀ p v H', Gen ws d names funs p → Dp K H' v p.enc → Fr (cB bx il) H H' → Box H' bx il → Q v H'
def spFun (K : PySem.W.Frag) (n : Nat) : Sp := fun vs H Q _ => ∃ (bx il nm fn w : Addr) (d : Int) (names : List Str) (funs : List (Str × Nat)) (fv : List V) (ws : List Str), vs = [.ref bx, .int d, .ref nm, .ref fn, .ref w] ∧
  GenPre K H bx il d nm fn w names funs fv ws ∧ 0 < d ∧ d + 1 ≤ n ∧ ∀ p v H', Gen ws d names funs p → Dp K H' v p.enc → Fr (cB bx il) H H' → Box H' bx il → Q v H'
theorem shaped_F {funs : List (Str × Nat)} (h : ∀ e ∈ funs, wordB e.1 = true) : SeqAt.shaped (.list (funs.map encF)) = true := by
  have c : ∀ l : List (Str × Nat), (∀ e ∈ l, wordB e.1 = true) → PyData.canLayAll0 (l.map encF) = true := fun l => by
    induction l with
    | nil => intro _; rfl
    | cons x r ih =>
      intro h
      rw [List.map_cons, PyData.canLayAll0, ih fun y hy => h y (List.mem_cons_of_mem _ hy)]
      have := strOk_word (h x (List.mem_cons_self ..))
      simp [encF, PyData.canLay0, PyData.canLayAll0, this]
  have d : ∀ l : List (Str × Nat), PyData.depthAll (l.map encF) ≤ 1 := fun l => by
    induction l with
    | nil => simp [PyData.depthAll]
    | cons x r ih =>
      simp only [List.map_cons, PyData.depthAll, encF, PyData.depth]
      omega
  have h1 := c funs h
  have h2 := d funs
  unfold SeqAt.shaped
  rw [Bool.and_eq_true, decide_eq_true_eq]
  refine ⟨by simpa [PyData.canLay0] using h1, ?_⟩
  rw [PyData.depth]; omega
/-- data of parts -/
theorem parts_of : ∀ {ds : List PyData} {Good : Part → Prop}, (∀ (k : Nat) (d : PyData), ds[k]? = some d → (∃ p, Good p ∧ d = p.enc) ∧ tupD d = true) → ∃ as : List Part, ds = as.map Part.enc ∧ ∀ a ∈ as, Good a
  | [], _, _ => ⟨[], rfl, fun _ h => by simp at h⟩
  | d :: r, Good, h => by
    obtain ⟨⟨p, g, rfl⟩, _⟩ := h 0 d rfl
    obtain ⟨as, rfl, ha⟩ := parts_of (ds := r) (Good := Good) fun k x hk => h (k + 1) x (by simpa using hk)
    exact ⟨p :: as, rfl, fun a hm => (List.mem_cons.mp hm).elim (fun e => by subst e; exact g) (ha a)⟩
def t_part (K : PySem.W.Frag) (n : Nat) : TS :=
  (tSeq (tAsg (tCall spTake [] C8.E0 (tCons (tVar 0) (tCons (tC (.int 10)) tNil))) (gName 5))
    (tSeq (tIfS (tOr (tTest (tOp oLe (tVar 1) (tC (.int 0)))) (tTest (tOp rEq (tVar 5) (tC (.int 0))))) (tRet (tCall (spLeaf K) [] C8.E0 (tCons (tVar 0) (tCons (tVar 2) tNil)))) tNext)
    (tSeq (tIfS (tTest (tOp oLt (tVar 5) (tC (.int 3)))) (tRet (tCall (spFun K n) [] C8.E0 (tCons (tVar 0) (tCons (tVar 1) (tCons (tVar 2) (tCons (tVar 3) (tCons (tVar 4) tNil))))))) tNext)
    (tSeq (tIfS (tTest (tOp oLt (tVar 5) (tC (.int 5)))) (tSeq (tAsg (tOp (rIxL K) (tVar 4) (tCall spTake [] C8.E0 (tCons (tVar 0) (tCons (tCB (rLenSq K) (tCons (tVar 4) tNil)) tNil)))) (gName 6))
    (tSeq (tAsg (tCall (spPart K n) [] C8.E0 (tCons (tVar 0) (tCons (tOp oSub (tVar 1) (tC (.int 2))) (tCons (tVar 2) (tCons (tVar 3) (tCons (tVar 4) tNil)))))) (gName 7))
    (tRet (tTup (tCons (tC (.str "let")) (tCons (tVar 6) (tCons (tVar 7) (tCons (tCall (spPart K n) [] C8.E0 (tCons (tVar 0) (tCons (tOp oSub (tVar 1) (tC (.int 1))) (tCons (tOp rCat (tVar 2) (tLst (tCons (tVar 6) tNil))) (tCons (tVar 3) (tCons (tVar 4) tNil)))))) tNil)))))))) tNext)
    (tSeq (tIfS (tAnd (tTest (tOp oLt (tVar 5) (tC (.int 8)))) (tTest (tOp (rNeD K) (tVar 3) (tLst tNil)))) (tSeq (tAsg (tOp (rIxL K) (tVar 3) (tOp oSub (tOp oSub (tCB (rLenSq K) (tCons (tVar 3) tNil)) (tC (.int 1))) (tCall spTake [] C8.E0 (tCons (tVar 0) (tCons (tCB (rLenSq K) (tCons (tVar 3) tNil)) tNil))))) (gTup K 2 (gCons (gName 8) (gCons (gName 9) gNil))))
    (tRet (tTup (tCons (tC (.str "call")) (tCons (tVar 8) (tCons (tCB (rTupSq K) (tCons (tLc (iRng1 (tCons (tVar 9) tNil)) (gName 11) tYes (tCall (spPart K n) [] C8.E0 (tCons (tVar 0) (tCons (tOp oSub (tVar 1) (tC (.int 2))) (tCons (tVar 2) (tCons (tVar 3) (tCons (tVar 4) tNil)))))) [11]) tNil)) tNil)))))) tNext)
    (tSeq (tIfS (tTest (tOp rEq (tVar 5) (tC (.int 8)))) (tRet (tTup (tCons (tC (.str "say")) (tCons (tCall (spPart K n) [] C8.E0 (tCons (tVar 0) (tCons (tOp oSub (tVar 1) (tC (.int 1))) (tCons (tVar 2) (tCons (tVar 3) (tCons (tVar 4) tNil)))))) tNil)))) tNext)
    (tSeq (tAsg (tLc (iRng1 (tCons (tC (.int 2)) tNil)) (gName 11) tYes (tCall (spPart K n) [] C8.E0 (tCons (tVar 0) (tCons (tOp oSub (tVar 1) (tC (.int 2))) (tCons (tVar 2) (tCons (tVar 3) (tCons (tVar 4) tNil)))))) [11]) (gName 10))
    (tSeq (tIfS (tTest (tOp rEq (tCall spTake [] C8.E0 (tCons (tVar 0) (tCons (tC (.int 3)) tNil))) (tC (.int 1)))) (tRet (tTup (tCons (tC (.str "if")) (tCons (tOp (rIxL K) (tVar 10) (tC (.int 0))) (tCons (tOp (rIxL K) (tVar 10) (tC (.int 1))) (tCons (tCall (spLeaf K) [] C8.E0 (tCons (tVar 0) (tCons (tVar 2) tNil))) tNil)))))) tNext)
    (tRet (tTup (tCons (tOp (rIxL K) (tLst (tCons (tC (.str "add")) (tCons (tC (.str "less")) tNil))) (tCall spTake [] C8.E0 (tCons (tVar 0) (tCons (tC (.int 2)) tNil)))) (tCons (tOp (rIxL K) (tVar 10) (tC (.int 0))) (tCons (tOp (rIxL K) (tVar 10) (tC (.int 1))) tNil)))))))))))))
theorem pure_part {K : PySem.W.Frag} {n : Nat} (vs : List V) (H : Hp) (Q : VK) (E : XK) (h : spPart K (n + 1) vs H Q E) :
    t_part K n { nx := fun _ H' => Q .non H', rt := Q } (start ["box", "deep", "names", "funs", "words", "way", "word", "first", "name", "many", "some", "k"] vs) H := by
  obtain ⟨bx, il, nm, fn, w, d, names, funs, fv, ws, rfl, P, hn, k⟩ := h
  -- way
  refine ⟨_, rfl, bx, il, 10, rfl, P.box, by decide, by decide, fun way H1 w0 w1 f1 B1 => ?_⟩
  have P1 := P.fr f1 B1
  have leaf : (tRet (tCall (spLeaf K) [] C8.E0 (tCons (tVar 0) (tCons (tVar 2) tNil)))) { nx := fun _ H' => Q .non H', rt := Q }
      [some (.ref bx), some (.int d), some (.ref nm), some (.ref fn), some (.ref w), some (.int way), none, none, none, none, none, none] H1 :=
    ⟨_, rfl, _, rfl, bx, il, nm, names, rfl, P1.box, P1.nm, P1.nw, by have := P1.nl; omega, fun p v H2 g hd f2 B2 => k p v H2 (.leaf g) hd (f1.trans f2) B2⟩
  refine ⟨_, rfl, _, _, rfl, rfl, _, rfl, ?_⟩
  refine ite2 (fun _ => iteT leaf) fun hd => ?_
  have hd : 0 < d := by
    have : ¬ d ≤ 0 := of_decide_eq_false (Bool.eq_false_iff.mpr hd)
    omega
  refine ⟨_, rfl, rfl, _, rfl, ?_⟩
  refine ite2 (fun _ => leaf) fun _ => ?_
  -- a function
  refine ⟨_, rfl, _, _, rfl, rfl, _, rfl, ?_⟩
  refine ite2 (fun _ => ?_) fun _ => ?_
  · exact ⟨_, rfl, _, rfl, _, rfl, _, rfl, _, rfl, bx, il, nm, fn, w, d, names, funs, fv, ws, rfl, P1, hd, by omega, fun p v H2 g hD f2 B2 => k p v H2 g hD (f1.trans f2) B2⟩
  -- a let
  refine ⟨_, rfl, _, _, rfl, rfl, _, rfl, ?_⟩
  refine ite2 (fun _ => ?_) fun _ => ?_
  · have lw : (ws.map V.str).length = ws.length := List.length_map _
    have h3 := P1.w3
    have h5 := P1.w5
    refine ⟨_, rfl, _, rfl, _, rfl, w, _, rfl, .inl P1.w.sq, bx, il, _, rfl, P1.box, by rw [lw]; omega, by rw [lw]; omega, fun r H2 r0 r1 f2 B2 => ?_⟩
    have P2 := P1.fr f2 B2
    obtain ⟨y, hy, hy2⟩ := atI_int (l := ws.map V.str) r0 r1
    obtain ⟨x, hx, rfl⟩ := map_at hy2
    have hxm := List.mem_of_getElem? hx
    refine ⟨w, _, _, _, rfl, rfl, P2.w.sq, hy, ?_⟩
    refine ⟨_, rfl, _, rfl, _, _, rfl, rfl, _, rfl, _, rfl, _, rfl, bx, il, nm, fn, w, d - 2, names, funs, fv, ws, rfl, P2.down (by omega) (by omega), by omega, fun p1 v1 H3 g1 d1 f3 B3 => ?_⟩
    have P3 := P2.fr f3 B3
    refine ⟨_, rfl, _, rfl, _, rfl, _, rfl, _, _, rfl, rfl, _, rfl, _, rfl, one_sz (by show 1 ≤ 1000; decide), fun q hq => ?_⟩
    have P4 := P3.new (o := .lst [.str x]) hq
    have hnq : nm ≠ q := ne_of_none P3.nm.1 hq
    refine ⟨nm, q, _, _, rfl, rfl, P4.nm.1, upd_same, ?_, fun q2 hq2 => ?_⟩
    · have := P4.nl
      exact one_sz (by simp only [List.length_map, List.length_singleton]; omega)
    have P5 := P4.addN (p := q2) (xs := [x]) (d' := d - 1) hq2 (fun z hz => by rw [List.mem_singleton.mp hz]; exact P.ww x hxm) (by show 1 ≤ 5; decide) (by omega) (by omega)
    refine ⟨_, rfl, _, rfl, bx, il, q2, fn, w, d - 1, names ++ [x], funs, fv, ws, rfl, P5, by omega, fun p2 v2 H6 g2 d2 f6 B6 => ⟨one_sz (by show 4 ≤ 1000; decide), fun t ht => ?_⟩⟩
    have f36 : Fr (cB bx il) H3 H6 := ((Fr.new hq).trans (Fr.new hq2)).trans f6
    refine k (.lt x p1 p2) _ _ (.lt hd hxm g1 g2) (.tup (SqT.of upd_same) (.cons (.str _) (.cons (.str _) (.cons ?_ (.cons ?_ .nil))))) ((((f1.trans f2).trans f3).trans f36).trans (Fr.new ht)) (B6.new ht)
    · exact Dp.fr ((f36.trans (Fr.new ht)) : Fr (cB bx il) _ _) _ _ (tup_enc p1) d1
    · exact Dp.fr (Fr.new (C := c0) ht) _ _ (tup_enc p2) d2
  -- what follows a call that is none
  have rest : ∀ H2, Fr (cB bx il) H H2 → GenPre K H2 bx il d nm fn w names funs fv ws →
      (tSeq (tIfS (tTest (tOp rEq (tVar 5) (tC (.int 8)))) (tRet (tTup (tCons (tC (.str "say")) (tCons (tCall (spPart K n) [] C8.E0 (tCons (tVar 0) (tCons (tOp oSub (tVar 1) (tC (.int 1))) (tCons (tVar 2) (tCons (tVar 3) (tCons (tVar 4) tNil)))))) tNil)))) tNext)
    (tSeq (tAsg (tLc (iRng1 (tCons (tC (.int 2)) tNil)) (gName 11) tYes (tCall (spPart K n) [] C8.E0 (tCons (tVar 0) (tCons (tOp oSub (tVar 1) (tC (.int 2))) (tCons (tVar 2) (tCons (tVar 3) (tCons (tVar 4) tNil)))))) [11]) (gName 10))
    (tSeq (tIfS (tTest (tOp rEq (tCall spTake [] C8.E0 (tCons (tVar 0) (tCons (tC (.int 3)) tNil))) (tC (.int 1)))) (tRet (tTup (tCons (tC (.str "if")) (tCons (tOp (rIxL K) (tVar 10) (tC (.int 0))) (tCons (tOp (rIxL K) (tVar 10) (tC (.int 1))) (tCons (tCall (spLeaf K) [] C8.E0 (tCons (tVar 0) (tCons (tVar 2) tNil))) tNil)))))) tNext)
    (tRet (tTup (tCons (tOp (rIxL K) (tLst (tCons (tC (.str "add")) (tCons (tC (.str "less")) tNil))) (tCall spTake [] C8.E0 (tCons (tVar 0) (tCons (tC (.int 2)) tNil)))) (tCons (tOp (rIxL K) (tVar 10) (tC (.int 0))) (tCons (tOp (rIxL K) (tVar 10) (tC (.int 1))) tNil)))))))) { nx := fun _ H' => Q .non H', rt := Q }
      [some (.ref bx), some (.int d), some (.ref nm), some (.ref fn), some (.ref w), some (.int way), none, none, none, none, none, none] H2 := fun H2 f2 P2 => by
    refine ⟨_, rfl, rfl, _, rfl, ?_⟩
    refine ite2 (fun _ => ?_) fun _ => ?_
    · -- say
      refine ⟨_, rfl, _, rfl, _, _, rfl, rfl, _, rfl, _, rfl, _, rfl, bx, il, nm, fn, w, d - 1, names, funs, fv, ws, rfl, P2.down (by omega) (by omega), by omega, fun p1 v1 H3 g1 d1 f3 B3 => ⟨one_sz (by show 2 ≤ 1000; decide), fun t ht => ?_⟩⟩
      exact k (.say p1) _ _ (.say hd g1) (.tup (SqT.of upd_same) (.cons (.str _) (.cons (Dp.fr (Fr.new (C := c0) ht) _ _ (tup_enc p1) d1) .nil))) ((f2.trans f3).trans (Fr.new ht)) (B3.new ht)
    -- two
    refine ⟨2, rfl, by decide, by decide, ?_⟩
    refine lcG_range (K := K) (n := 2) (C := cB bx il) (I := fun H => Box H bx il) (Good := fun _ dd => ∃ p, Gen ws (d - 2) names funs p ∧ dd = p.enc) (box_up P2.box) (box_no P2.box) P2.box (by decide) (fun i hi H' f' B' Q' hQ => ?_) fun D vs ds H' hD e da dl dg df dB => ?_
    · have P' := P2.fr f' B'
      exact ⟨_, rfl, _, rfl, _, _, rfl, rfl, _, rfl, _, rfl, _, rfl, bx, il, nm, fn, w, d - 2, names, funs, fv, ws, rfl, P'.down (by omega) (by omega), by omega, fun p v H'' g hD f B => hQ p.enc v H'' ⟨p, g, rfl⟩ (tup_enc p) hD f B⟩
    obtain ⟨as, rfl, ha⟩ := parts_of dg
    match as, dl, ha, da with
    | [a1, a2], _, ha, da =>
      cases da with
      | @cons v1 _ _ _ e1 r1 =>
        cases r1 with
        | @cons v2 _ _ _ e2 r2 =>
          cases r2
          have g1 := ha a1 (by simp)
          have g2 := ha a2 (by simp)
          have LD : Ls H' bx il D [v1, v2] := ⟨e, fun z => box_no P2.box D (.lst []) hD (Or.inl z), fun z => box_no P2.box D (.lst []) hD (Or.inr z)⟩
          have P' := P2.fr df dB
          refine ⟨_, rfl, bx, il, 3, rfl, dB, by decide, by decide, fun r H3 r0 r1 f3 B3 => ⟨rfl, _, rfl, ?_⟩⟩
          have P3 := P'.fr f3 B3
          have L3 := LD.fr f3
          refine ite2 (fun _ => ?_) fun _ => ?_
          · -- if
            refine ⟨_, rfl, D, _, _, _, rfl, rfl, L3.sq, rfl, _, rfl, D, _, _, _, rfl, rfl, L3.sq, rfl, _, rfl, _, rfl, bx, il, nm, names, rfl, B3, P3.nm, P3.nw, by have := P3.nl; omega, fun p3 v3 H4 g3 d3 f4 B4 => ⟨one_sz (by show 4 ≤ 1000; decide), fun t ht => ?_⟩⟩
            have ft : Fr (cB bx il) H' (upd H4 t (.tup [.str "if", v1, v2, v3])) := (f3.trans f4).trans (Fr.new ht)
            exact k (.ite a1 a2 p3) _ _ (.ite hd g1 g2 g3) (.tup (SqT.of upd_same) (.cons (.str _) (.cons (Dp.fr ft _ _ (tup_enc a1) e1) (.cons (Dp.fr ft _ _ (tup_enc a2) e2) (.cons (Dp.fr (Fr.new (C := c0) ht) _ _ (tup_enc p3) d3) .nil))))) ((f2.trans df).trans ft) (B4.new ht)
          · refine ⟨one_sz (by show 2 ≤ 1000; decide), fun q hq => ?_⟩
            have Lq : Ls _ bx il q [.str "add", .str "less"] := Ls.new B3 hq
            have L4 := L3.fr (Fr.new (o := .lst [.str "add", .str "less"]) hq)
            refine ⟨_, rfl, bx, il, 2, rfl, B3.new hq, by decide, by decide, fun z H5 z0 z1 f5 B5 => ?_⟩
            have f15 : Fr (cB bx il) H' H5 := (f3.trans (Fr.new hq)).trans f5
            have Lq5 := Lq.fr f5
            have L5 := L4.fr f5
            have hz : z = 0 ∨ z = 1 := by omega
            rcases hz with rfl | rfl
            · refine ⟨q, _, _, _, rfl, rfl, Lq5.sq, rfl, _, rfl, D, _, _, _, rfl, rfl, L5.sq, rfl, _, rfl, D, _, _, _, rfl, rfl, L5.sq, rfl, one_sz (by show 3 ≤ 1000; decide), fun t ht => ?_⟩
              have ft : Fr (cB bx il) H' (upd H5 t (.tup [.str "add", v1, v2])) := f15.trans (Fr.new ht)
              exact k (.add a1 a2) _ _ (.add hd g1 g2) (.tup (SqT.of upd_same) (.cons (.str _) (.cons (Dp.fr ft _ _ (tup_enc a1) e1) (.cons (Dp.fr ft _ _ (tup_enc a2) e2) .nil)))) ((f2.trans df).trans ft) (B5.new ht)
            · refine ⟨q, _, _, _, rfl, rfl, Lq5.sq, rfl, _, rfl, D, _, _, _, rfl, rfl, L5.sq, rfl, _, rfl, D, _, _, _, rfl, rfl, L5.sq, rfl, one_sz (by show 3 ≤ 1000; decide), fun t ht => ?_⟩
              have ft : Fr (cB bx il) H' (upd H5 t (.tup [.str "less", v1, v2])) := f15.trans (Fr.new ht)
              exact k (.less a1 a2) _ _ (.less hd g1 g2) (.tup (SqT.of upd_same) (.cons (.str _) (.cons (Dp.fr ft _ _ (tup_enc a1) e1) (.cons (Dp.fr ft _ _ (tup_enc a2) e2) .nil)))) ((f2.trans df).trans ft) (B5.new ht)
  -- a call
  refine ⟨_, rfl, _, _, rfl, rfl, _, rfl, ?_⟩
  refine ite2 (fun _ => ?_) fun _ => rest H1 f1 P1
  refine ⟨_, rfl, one_sz (Nat.zero_le _), fun p hp => ?_⟩
  have P2 := P1.new (o := .lst []) hp
  have f2 : Fr (cB bx il) H (upd H1 p (.lst [])) := f1.trans (Fr.new hp)
  refine ⟨.list (funs.map encF), .list [], .lst P2.fn.sq P2.fd, .lst (SqL.of upd_same) .nil, shaped_F P.fw, rfl, _, rfl, ?_⟩
  rw [eqv_lists_nil]
  cases hf : funs.map encF with
  | nil => exact iteF (rest _ f2 P2)
  | cons e0 r0 =>
    refine iteT ?_
    have lf : fv.length = funs.length := by rw [P2.fd.len, List.length_map]
    have lpos : 0 < funs.length := by
      have := congrArg List.length hf
      rw [List.length_map, List.length_cons] at this
      omega
    have lmax := P.fl
    refine ⟨_, rfl, _, rfl, fn, _, rfl, .inl P2.fn.sq, _, _, rfl, rfl, _, rfl, _, rfl, fn, _, rfl, .inl P2.fn.sq, bx, il, _, rfl, P2.box, by omega, by omega, fun z H3 z0 z1 f3 B3 => ?_⟩
    have P3 := P2.fr f3 B3
    obtain ⟨y, hy, hy2⟩ := atI_int (l := fv) (i := (fv.length : Int) - 1 - z) (by omega) (by omega)
    obtain ⟨dd, hdd, Dy⟩ := P3.fd.getV hy2
    obtain ⟨⟨f, m⟩, hfm, rfl⟩ := map_at hdd
    have hmem := List.mem_of_getElem? hfm
    obtain ⟨t, xs, rfl, hT, hxs⟩ := Dy.tup_inv
    cases hxs with
    | @cons u1 _ _ _ q1 r1 =>
      cases r1 with
      | @cons u2 _ _ _ q2 r2 =>
        cases r2
        cases q1
        cases q2
        have m4 : m ≤ 4 := P.ar _ hmem
        refine ⟨_, _, rfl, rfl, fn, _, _, _, rfl, rfl, P3.fn.sq, hy, t, _, rfl, hT, rfl, _, _, rfl, _, _, rfl, rfl, ?_⟩
        refine ⟨_, rfl, _, rfl, (m : Int), rfl, by omega, by omega, ?_⟩
        refine lcG_range (K := K) (n := m) (C := cB bx il) (I := fun H => Box H bx il) (Good := fun _ dd => ∃ p, Gen ws (d - 2) names funs p ∧ dd = p.enc) (box_up P3.box) (box_no P3.box) P3.box (by omega) (fun i hi H' f' B' Q' hQ => ?_) fun D vs ds H' hD e da dl dg df dB => ?_
        · have P' := P3.fr f' B'
          exact ⟨_, rfl, _, rfl, _, _, rfl, rfl, _, rfl, _, rfl, _, rfl, bx, il, nm, fn, w, d - 2, names, funs, fv, ws, rfl, P'.down (by omega) (by omega), by omega, fun p v H'' g hD f B => hQ p.enc v H'' ⟨p, g, rfl⟩ (tup_enc p) hD f B⟩
        obtain ⟨as, rfl, ha⟩ := parts_of dg
        rw [List.length_map] at dl
        subst dl
        refine ⟨D, _, rfl, .inl ⟨SqL.of e, fun l hl => ⟨one_sz (by show 3 ≤ 1000; decide), fun t2 ht2 => ?_⟩⟩⟩
        have fl : Fr (cB bx il) H' (upd H' l (.tup vs)) := Fr.new hl
        have fl2 : Fr (cB bx il) (upd H' l (.tup vs)) (upd (upd H' l (.tup vs)) t2 (.tup [.str "call", .str f, .ref l])) := Fr.new ht2
        have td : tupDs (as.map Part.enc) = true := tupDs_all fun x hx => by
          obtain ⟨a, _, rfl⟩ := List.mem_map.mp hx
          exact tup_enc a
        refine k (.call f (Parts.of as)) _ _ (.call hd hmem ha) (.tup (SqT.of upd_same) (.cons (.str _) (.cons (.str _) (.cons ?_ .nil)))) ((((f2.trans f3).trans df).trans fl).trans fl2) ((dB.new hl).new ht2)
        rw [Parts.encs_of]
        exact .tup (fl2.sqT (SqT.of upd_same)) (Dp.frs fl2 _ _ td (Dp.frs fl _ _ td da))
end BN
namespace BN
open PySem L2 PyProof.Rows
theorem cut_to {xs : List V} {r : Int} (h0 : 0 ≤ r) (h1 : r ≤ xs.length) : cutV xs none (some r) = xs.take r.toNat := by
  unfold cutV
  have e : r = ((r.toNat : Nat) : Int) := by omega
  rw [HT.sIx_none, e, HT.sIx_nat, List.drop_zero]
  congr 1
  simp only [Int.toNat_natCast]
  omega
theorem cut_from {xs : List V} (k : Nat) (h : k ≤ xs.length) : cutV xs (some (k : Int)) none = xs.drop k := by
  unfold cutV
  rw [HT.sIx_none, HT.sIx_nat, Nat.min_eq_left h]
  rw [List.take_of_length_le]
  rw [List.length_drop]
  omega
def t_fun (K : PySem.W.Frag) (n : Nat) : TS :=
  (tSeq (tAsg (tOp (rIxL K) (tVar 4) (tCall spTake [] C8.E0 (tCons (tVar 0) (tCons (tC (.int 3)) tNil)))) (gName 5))
    (tSeq (tAsg (tSl (rSlL K) (tVar 4) tNoPart (tPart (tCall spTake [] C8.E0 (tCons (tVar 0) (tCons (tCB (rLenSq K) (tCons (tVar 4) tNil)) tNil))))) (gName 6))
    (C8.tCut (tIfS (tTest (tOp rEq (tCall spTake [] C8.E0 (tCons (tVar 0) (tCons (tC (.int 3)) tNil))) (tC (.int 1)))) (tAsg (tRevL K (tVar 6)) (gName 6)) tNext) (tSeq (tAsg (tCall (spPart K n) [] C8.E0 (tCons (tVar 0) (tCons (tOp oSub (tVar 1) (tC (.int 1))) (tCons (tOp rCat (tVar 2) (tVar 6)) (tCons (tVar 3) (tCons (tVar 4) tNil)))))) (gName 7))
    (tSeq (tAsg (tOp rCat (tLc (iList K (tVar 3)) (gName 12) (tTest (tOp rNe (tOp (rIxT K) (tVar 12) (tC (.int 0))) (tVar 5))) (tVar 12) [12]) (tLst (tCons (tTup (tCons (tVar 5) (tCons (tCB (rLenSq K) (tCons (tVar 6) tNil)) tNil))) tNil))) (gName 8))
    (tSeq (tAsg (tCall (spPart K n) [] C8.E0 (tCons (tVar 0) (tCons (tOp oSub (tVar 1) (tC (.int 1))) (tCons (tVar 2) (tCons (tVar 8) (tCons (tVar 4) tNil)))))) (gName 9))
    (tSeq (tIfS (tTest (tOp oGt (tCall spTake [] C8.E0 (tCons (tVar 0) (tCons (tC (.int 3)) tNil))) (tC (.int 0)))) (tSeq (tAsg (tOp (rIxL K) (tVar 4) (tCall spTake [] C8.E0 (tCons (tVar 0) (tCons (tCB (rLenSq K) (tCons (tVar 4) tNil)) tNil)))) (gName 10))
    (tSeq (tAsg (tTup (tCons (tC (.str "call")) (tCons (tVar 5) (tCons (tCB (rTupSq K) (tCons (tLc (iList K (tVar 6)) (gName 13) tYes (tCall (spLeaf K) [] C8.E0 (tCons (tVar 0) (tCons (tVar 2) tNil))) [13]) tNil)) tNil)))) (gName 11))
    (tAsg (tTup (tCons (tC (.str "add")) (tCons (tVar 9) (tCons (tTup (tCons (tC (.str "let")) (tCons (tVar 10) (tCons (tCall (spLeaf K) [] C8.E0 (tCons (tVar 0) (tCons (tVar 2) tNil))) (tCons (tVar 11) tNil))))) tNil)))) (gName 9)))) tNext)
    (tRet (tTup (tCons (tC (.str "fun")) (tCons (tVar 5) (tCons (tCB (rTupSq K) (tCons (tVar 6) tNil)) (tCons (tVar 7) (tCons (tVar 9) tNil))))))))))))))
theorem pure_fun {K : PySem.W.Frag} {n : Nat} (vs : List V) (H : Hp) (Q : VK) (E : XK) (h : spFun K n vs H Q E) :
    t_fun K n { nx := fun _ H' => Q .non H', rt := Q } (start ["box", "deep", "names", "funs", "words", "name", "params", "body", "known", "rest", "word", "call", "fun", "param"] vs) H := by
  obtain ⟨bx, il, nm, fn, w, d, names, funs, fv, ws, rfl, P, hd, hn, k⟩ := h
  have lw : (ws.map V.str).length = ws.length := List.length_map _
  have h3 := P.w3
  have h5 := P.w5
  -- name
  refine ⟨_, rfl, _, rfl, bx, il, 3, rfl, P.box, by decide, by decide, fun r1 H1 r10 r11 f1 B1 => ?_⟩
  have P1 := P.fr f1 B1
  obtain ⟨y, hy, hy2⟩ := atI_int (l := ws.map V.str) r10 (by rw [lw]; omega)
  obtain ⟨f, hf, rfl⟩ := map_at hy2
  have hfm := List.mem_of_getElem? hf
  refine ⟨w, _, _, _, rfl, rfl, P1.w.sq, hy, ?_⟩
  -- params
  refine ⟨_, rfl, _, rfl, _, rfl, w, _, rfl, .inl P1.w.sq, bx, il, _, rfl, P1.box, by rw [lw]; omega, by rw [lw]; omega, fun r2 H2 r20 r21 f2 B2 => ?_⟩
  have P2 := P1.fr f2 B2
  refine ⟨_, rfl, w, _, rfl, P2.w.sq, fun pa0 hpa0 => ?_⟩
  rw [lw] at r21
  rw [cut_to r20 (by rw [lw]; omega), ← List.map_take]
  have P3 := P2.new (o := .lst ((ws.take r2.toNat).map V.str)) hpa0
  have L3 : Ls (upd H2 pa0 (.lst ((ws.take r2.toNat).map V.str))) bx il pa0 ((ws.take r2.toNat).map V.str) := Ls.new P2.box hpa0
  have f3 : Fr (cB bx il) H (upd H2 pa0 (.lst ((ws.take r2.toNat).map V.str))) := (f1.trans f2).trans (Fr.new hpa0)
  have nd0 : (ws.take r2.toNat).Nodup := (List.take_sublist _ _).nodup P.wd
  have mm0 : ∀ x ∈ ws.take r2.toNat, x ∈ ws := fun x hx => List.mem_of_mem_take hx
  have ln0 : (ws.take r2.toNat).length ≤ 4 := by rw [List.length_take]; omega
  refine ⟨fun σ H' => ∃ (pa : Addr) (ps : List Str), σ = [some (.ref bx), some (.int d), some (.ref nm), some (.ref fn), some (.ref w), some (.str f), some (.ref pa), none, none, none, none, none, none, none] ∧
    Ls H' bx il pa (ps.map V.str) ∧ ps.Nodup ∧ (∀ x ∈ ps, x ∈ ws) ∧ ps.length ≤ 4 ∧ Fr (cB bx il) H H' ∧ Box H' bx il, ?_, ?_⟩
  · refine ⟨_, rfl, bx, il, 3, rfl, P3.box, by decide, by decide, fun r3 H4 r30 r31 f4 B4 => ⟨rfl, _, rfl, ?_⟩⟩
    have L4 := L3.fr f4
    refine ite2 (fun _ => ?_) fun _ => ?_
    · refine ⟨_, rfl, pa0, _, rfl, L4.sq, fun q hq => ?_⟩
      rw [← List.map_reverse]
      exact ⟨q, (ws.take r2.toNat).reverse, rfl, Ls.new B4 hq, (List.reverse_perm _).nodup_iff.mpr nd0, fun x hx => mm0 x (List.mem_reverse.mp hx), by rw [List.length_reverse]; exact ln0, (f3.trans f4).trans (Fr.new hq), B4.new hq⟩
    · exact ⟨pa0, _, rfl, L4, nd0, mm0, ln0, f3.trans f4, B4⟩
  rintro σ H4 ⟨pa, ps, rfl, L4, nd, mm, ln, f4, B4⟩
  have P4 := P.fr f4 B4
  have hw : ∀ x ∈ ps, wordB x = true := fun x hx => P.ww x (mm x hx)
  -- the body
  refine ⟨_, rfl, _, rfl, _, _, rfl, rfl, _, rfl, _, rfl, nm, pa, _, _, rfl, rfl, P4.nm.1, L4.1, ?_, fun q hq => ?_⟩
  · have := P.nl
    exact one_sz (by simp only [List.length_map]; omega)
  have P5 := P4.addN (p := q) (xs := ps) (d' := d - 1) hq hw (by omega) (by omega) (by omega)
  refine ⟨_, rfl, _, rfl, bx, il, q, fn, w, d - 1, names ++ ps, funs, fv, ws, rfl, P5, by omega, fun pb vb H6 gb db f6 B6 => ?_⟩
  have f06 : Fr (cB bx il) H4 H6 := (Fr.new hq).trans f6
  have P6 := P4.fr f06 B6
  have L6 := L4.fr f06
  -- known
  refine ⟨_, rfl, fn, rfl, ⟨_, P6.fn.sq⟩, fun D hD => ?_⟩
  have nfD : fn ≠ D := ne_of_none P6.fn.1 hD
  have fD : ∀ acc, Fr (cB bx il) H6 (upd H6 D (.lst acc)) := fun acc => Fr.new hD
  have flen : fv.length = funs.length := by rw [P6.fd.len, List.length_map]
  refine lc_list (K := K) (a := fn) (xs := fv) (fun i H' => ∃ acc, H' = upd H6 D (.lst acc) ∧ DpAll K H6 acc (((funs.take i).filter (fun e => !decide (e.1 = f))).map encF)) ⟨[], rfl, .nil⟩ (fun i H' _ ⟨acc, e, _⟩ => by
    subst e
    exact SqL.of (by rw [upd_ne nfD]; exact P6.fn.1)) ?_ ?_
  · rintro i x H' hi ⟨acc, rfl, da⟩
    obtain ⟨dd, hdd, Dx⟩ := P6.fd.getV hi
    obtain ⟨⟨g, m⟩, hgm, rfl⟩ := map_at hdd
    obtain ⟨t, xs, rfl, hT, hxs⟩ := Dx.tup_inv
    have hT' : SqT K (upd H6 D (.lst acc)) t xs := (fD acc).sqT hT
    cases hxs with
    | @cons u1 _ _ _ q1 r1 =>
      cases r1 with
      | @cons u2 _ _ _ q2 r2 =>
        cases r2
        cases q1
        cases q2
        have step : (funs.take (i + 1)).filter (fun e => !decide (e.1 = f)) = (funs.take i).filter (fun e => !decide (e.1 = f)) ++ (if g = f then [] else [(g, m)]) := by
          rw [take_more hgm, List.filter_append]
          congr 1
          by_cases e : g = f <;> simp [e]
        refine ⟨rfl, _, rfl, t, _, _, _, rfl, rfl, hT', rfl, _, rfl, rfl, _, rfl, ?_⟩
        by_cases e : g = f
        · have e2 : (!decide (V.str g = V.str f)) = false := by rw [e]; simp
          rw [e2]
          refine iteF ⟨acc, rfl, ?_⟩
          rw [step, if_pos e, List.append_nil]
          exact da
        · have e2 : (!decide (V.str g = V.str f)) = true := by
            rw [decide_eq_false fun z => e (V.str.inj z)]; rfl
          rw [e2]
          refine iteT ⟨_, rfl, acc, upd_same, ?_, acc ++ [.ref t], by rw [upd_upd], ?_⟩
          · rw [da.len, List.length_map]
            have := List.length_filter_le (fun e : Str × Nat => !decide (e.1 = f)) (funs.take i)
            have h2 : (funs.take i).length ≤ funs.length := by rw [List.length_take]; omega
            have h3 := P.fl
            exact small1000 (by omega)
          · rw [step, if_neg e, List.map_append]
            exact da.append (.cons Dx .nil)
  rintro H7 ⟨acc, rfl, da⟩
  rw [flen, List.take_length] at da
  -- [(name, len(params))]
  have LD : Ls (upd H6 D (.lst acc)) bx il D acc := Ls.new P6.box hD
  have L7 := L6.fr (fD acc)
  refine ⟨_, rfl, _, rfl, pa, _, rfl, .inl L7.sq, one_sz (by show 2 ≤ 1000; decide), fun t ht => ⟨one_sz (by show 1 ≤ 1000; decide), fun l hl => ?_⟩⟩
  have B8 := ((P6.box.new (o := .lst acc) hD).new (o := .tup [.str f, .int ((ps.map V.str).length : Nat)]) ht)
  have LD8 := (LD.fr (Fr.new (o := .tup [.str f, .int ((ps.map V.str).length : Nat)]) ht))
  have LD9 := LD8.fr (Fr.new (o := .lst [.ref t]) hl)
  refine ⟨D, l, _, _, rfl, rfl, LD9.1, upd_same, ?_, fun kn hkn => ?_⟩
  · have := da.len
    rw [List.length_map] at this
    have h2 := List.length_filter_le (fun e : Str × Nat => !decide (e.1 = f)) funs
    have h3 := P.fl
    exact one_sz (by simp only [List.length_singleton]; omega)
  have f9 : Fr (cB bx il) H6 (upd (upd (upd (upd H6 D (.lst acc)) t (.tup [.str f, .int ((ps.map V.str).length : Nat)])) l (.lst [.ref t])) kn (.lst (acc ++ [.ref t]))) :=
    (((fD acc).trans (Fr.new ht)).trans (Fr.new hl)).trans (Fr.new hkn)
  have B9 := (B8.new (o := .lst [.ref t]) hl)
  have B10 := B9.new (o := .lst (acc ++ [.ref t])) hkn
  have P10 := P6.fr f9 B10
  have Lk : Ls (upd (upd (upd (upd H6 D (.lst acc)) t (.tup [.str f, .int ((ps.map V.str).length : Nat)])) l (.lst [.ref t])) kn (.lst (acc ++ [.ref t]))) bx il kn (acc ++ [.ref t]) := Ls.new B9 hkn
  have dk : DpAll K (upd (upd (upd (upd H6 D (.lst acc)) t (.tup [.str f, .int ((ps.map V.str).length : Nat)])) l (.lst [.ref t])) kn (.lst (acc ++ [.ref t]))) (acc ++ [.ref t]) ((known funs f ps.length).map encF) := by
    unfold known
    rw [List.map_append]
    refine (Dp.frs f9 _ _ (tupDs_F _) da).append (.cons ?_ .nil)
    refine .tup ((((Fr.new hl).trans (Fr.new hkn)) : Fr (cB bx il) _ _).sqT (SqT.of upd_same)) (.cons (.str _) (.cons ?_ .nil))
    rw [List.length_map]
    exact .int _
  have P11 := P10.addF (d' := d - 1) Lk dk (fun e he => by
    rcases List.mem_append.mp he with h | h
    · exact P.fw e (List.mem_filter.mp h).1
    · rw [List.mem_singleton.mp h]; exact P.ww f hfm) (fun e he => by
    rcases List.mem_append.mp he with h | h
    · exact P.ar e (List.mem_filter.mp h).1
    · rw [List.mem_singleton.mp h]; exact ln) (known_len _ _ _) (by omega) (by omega)
  -- the rest
  refine ⟨_, rfl, _, rfl, _, _, rfl, rfl, _, rfl, _, rfl, _, rfl, bx, il, nm, kn, w, d - 1, names, known funs f ps.length, _, ws, rfl, P11, by omega, fun pr vr H12 gr dr f12 B12 => ?_⟩
  have f612 : Fr (cB bx il) H6 H12 := f9.trans f12
  have f012 : Fr (cB bx il) H H12 := (f4.trans f06).trans f612
  have P12 := P6.fr f612 B12
  have L12 := L6.fr f612
  have db12 := Dp.fr f612 _ _ (tup_enc pb) db
  have fin : ∀ (H' : Hp) (q : Part) (v : V) (s10 s11 : Option V), Gen ws d names funs (.fn f ps pb q) → Dp K H' v q.enc → Fr (cB bx il) H12 H' → Box H' bx il →
      (tRet (tTup (tCons (tC (.str "fun")) (tCons (tVar 5) (tCons (tCB (rTupSq K) (tCons (tVar 6) tNil)) (tCons (tVar 7) (tCons (tVar 9) tNil))))))) { nx := fun _ H' => Q .non H', rt := Q }
      [some (.ref bx), some (.int d), some (.ref nm), some (.ref fn), some (.ref w), some (.str f), some (.ref pa), some vb, some (.ref kn), some v, s10, s11, none, none] H' := fun H' q v s10 s11 g dv ff BB => by
    have L' := L12.fr ff
    refine ⟨_, rfl, _, rfl, pa, _, rfl, .inl ⟨L'.sq, fun tp htp => ⟨_, rfl, _, rfl, one_sz (by show 5 ≤ 1000; decide), fun t2 ht2 => ?_⟩⟩⟩
    have g1 : Fr (cB bx il) H' (upd H' tp (.tup (ps.map V.str))) := Fr.new htp
    have g2 : Fr (cB bx il) (upd H' tp (.tup (ps.map V.str))) (upd (upd H' tp (.tup (ps.map V.str))) t2 (.tup [.str "fun", .str f, .ref tp, vb, v])) := Fr.new ht2
    exact k _ _ _ g (.tup (SqT.of upd_same) (.cons (.str _) (.cons (.str _) (.cons (.tup (g2.sqT (SqT.of upd_same)) (DpAll.strs ps)) (.cons (Dp.fr (ff.trans (g1.trans g2)) _ _ (tup_enc pb) db12) (.cons (Dp.fr (g1.trans g2) _ _ (tup_enc q) dv) .nil))))))
      (((f012.trans ff).trans g1).trans g2) ((BB.new htp).new ht2)
  -- a call behind it
  refine ⟨_, rfl, bx, il, 3, rfl, P12.box, by decide, by decide, fun r4 H13 r40 r41 f13 B13 => ⟨_, _, rfl, rfl, _, rfl, ?_⟩⟩
  have P13 := P12.fr f13 B13
  have L13 := L12.fr f13
  have dr13 := Dp.fr f13 _ _ (tup_enc pr) dr
  refine ite2 (fun _ => ?_) fun _ => fin H13 pr vr none none (.fn hd hfm nd mm ln gb gr) dr13 f13 B13
  refine ⟨_, rfl, _, rfl, _, rfl, w, _, rfl, .inl P13.w.sq, bx, il, _, rfl, P13.box, by rw [lw]; omega, by rw [lw]; omega, fun r5 H14 r50 r51 f14 B14 => ?_⟩
  have P14 := P13.fr f14 B14
  have L14 := L13.fr f14
  obtain ⟨y5, hy5, hy52⟩ := atI_int (l := ws.map V.str) r50 r51
  obtain ⟨wd, hwd, rfl⟩ := map_at hy52
  have hwm := List.mem_of_getElem? hwd
  refine ⟨w, _, _, _, rfl, rfl, P14.w.sq, hy5, ?_⟩
  -- ("call", name, tuple([..]))
  refine ⟨_, rfl, _, rfl, pa, rfl, ⟨_, L14.sq⟩, ?_⟩
  refine lcG_list (K := K) (a := pa) (xs := ps.map V.str) (C := cB bx il) (I := fun H => Box H bx il) (Good := fun _ dd => ∃ p, Leaf names p ∧ dd = p.enc) L14.sq (fun _ z => z.elim L14.2.1 L14.2.2) (box_up B14) (box_no B14) B14 (by rw [List.length_map]; omega) (fun i x hi H' f' B' Q' hQ => ?_) fun D2 vs ds H15 hD2 e da2 dl dg f15 B15 => ?_
  · have P' := P14.fr f' B'
    exact ⟨_, rfl, _, rfl, bx, il, nm, names, rfl, B', P'.nm, P'.nw, by have := P'.nl; omega, fun p v H'' g hD f B => hQ p.enc v H'' ⟨p, g, rfl⟩ (tup_enc p) hD f B⟩
  obtain ⟨as, rfl, ha⟩ := parts_of dg
  rw [List.length_map, List.length_map] at dl
  refine ⟨D2, _, rfl, .inl ⟨SqL.of e, fun l2 hl2 => ⟨one_sz (by show 3 ≤ 1000; decide), fun t2 ht2 => ?_⟩⟩⟩
  have g1 : Fr (cB bx il) H15 (upd H15 l2 (.tup vs)) := Fr.new hl2
  have g2 : Fr (cB bx il) (upd H15 l2 (.tup vs)) (upd (upd H15 l2 (.tup vs)) t2 (.tup [.str "call", .str f, .ref l2])) := Fr.new ht2
  have td : tupDs (as.map Part.enc) = true := tupDs_all fun x hx => by
    obtain ⟨a, _, rfl⟩ := List.mem_map.mp hx
    exact tup_enc a
  have dc : Dp K (upd (upd H15 l2 (.tup vs)) t2 (.tup [.str "call", .str f, .ref l2])) (.ref t2) (Part.call f (Parts.of as)).enc := by
    refine .tup (SqT.of upd_same) (.cons (.str _) (.cons (.str _) (.cons ?_ .nil)))
    rw [Parts.encs_of]
    exact .tup (g2.sqT (SqT.of upd_same)) (Dp.frs g2 _ _ td (Dp.frs g1 _ _ td da2))
  have B16 := (B15.new (o := .tup vs) hl2).new (o := .tup [.str "call", .str f, .ref l2]) ht2
  have f16 : Fr (cB bx il) H14 (upd (upd H15 l2 (.tup vs)) t2 (.tup [.str "call", .str f, .ref l2])) := (f15.trans g1).trans g2
  have P16 := P14.fr f16 B16
  -- ("add", rest, ("let", word, leaf, call))
  refine ⟨_, rfl, _, rfl, _, rfl, _, rfl, bx, il, nm, names, rfl, B16, P16.nm, P16.nw, by have := P16.nl; omega, fun pl vl H17 gl dl17 f17 B17 => ?_⟩
  refine ⟨_, rfl, one_sz (by show 4 ≤ 1000; decide), fun t3 ht3 => ⟨one_sz (by show 3 ≤ 1000; decide), fun t4 ht4 => ?_⟩⟩
  have g3 : Fr (cB bx il) H17 (upd H17 t3 (.tup [.str "let", .str wd, vl, .ref t2])) := Fr.new ht3
  have g4 : Fr (cB bx il) (upd H17 t3 (.tup [.str "let", .str wd, vl, .ref t2])) (upd (upd H17 t3 (.tup [.str "let", .str wd, vl, .ref t2])) t4 (.tup [.str "add", vr, .ref t3])) := Fr.new ht4
  refine fin _ (.add pr (.lt wd pl (.call f (Parts.of as)))) (.ref t4) _ _ (.fnc hd hfm nd mm ln gb gr hwm gl ha dl) ?_ ((((f13.trans f14).trans f16).trans f17).trans (g3.trans g4)) ((B17.new ht3).new ht4)
  refine .tup (SqT.of upd_same) (.cons (.str _) (.cons ?_ (.cons ?_ .nil)))
  · exact Dp.fr (((f14.trans f16).trans f17).trans (g3.trans g4)) _ _ (tup_enc pr) dr13
  · exact .tup (g4.sqT (SqT.of upd_same)) (.cons (.str _) (.cons (.str _) (.cons (Dp.fr (g3.trans g4) _ _ (tup_enc pl) dl17) (.cons (Dp.fr (f17.trans (g3.trans g4)) _ _ (tup_enc (.call f (Parts.of as))) dc) .nil))))
end BN
namespace BN
open PySem L2 PyProof.Rows
theorem ifF {b : Bool} {A B : Prop} (e : b = false) (h : B) : if b = true then A else B := by rw [e]; exact iteF h
theorem ifT {b : Bool} {A B : Prop} (e : b = true) (h : A) : if b = true then A else B := by rw [e]; exact iteT h
theorem nocut {n : Nat} (k : Nat) (h : 0 < k) (hn : k ≤ n) : ¬ (HT.sIx n 0 (some (k : Int)) = 0 ∧ HT.sIx n n none = n) := fun z => by
  have := z.1
  rw [HT.sIx_nat] at this
  omega
theorem rep_le {x : V} {b : Bool} : [x].length * (if b = true then (1 : Int) else 0).toNat ≤ sizeLine := by
  cases b
  · show 1 * (0 : Int).toNat ≤ sizeLine
    exact one_sz (by decide)
  · show 1 * (1 : Int).toNat ≤ sizeLine
    exact one_sz (by decide)
/-! ### what stands in a part -/
section
variable {K : PySem.W.Frag} {H : Hp} {v : V}
theorem all1 {vs : List V} {d : PyData} (h : DpAll K H vs [d]) : ∃ a, vs = [a] ∧ Dp K H a d := by
  cases h with
  | cons h1 r1 => cases r1; exact ⟨_, rfl, h1⟩
theorem all2 {vs : List V} {d e : PyData} (h : DpAll K H vs [d, e]) : ∃ a b, vs = [a, b] ∧ Dp K H a d ∧ Dp K H b e := by
  cases h with
  | cons h1 r1 => obtain ⟨b, rfl, h2⟩ := all1 r1; exact ⟨_, _, rfl, h1, h2⟩
theorem all3 {vs : List V} {d e f : PyData} (h : DpAll K H vs [d, e, f]) : ∃ a b c, vs = [a, b, c] ∧ Dp K H a d ∧ Dp K H b e ∧ Dp K H c f := by
  cases h with
  | cons h1 r1 => obtain ⟨b, c, rfl, h2, h3⟩ := all2 r1; exact ⟨_, _, _, rfl, h1, h2, h3⟩
theorem all4 {vs : List V} {d e f g : PyData} (h : DpAll K H vs [d, e, f, g]) : ∃ a b c i, vs = [a, b, c, i] ∧ Dp K H a d ∧ Dp K H b e ∧ Dp K H c f ∧ Dp K H i g := by
  cases h with
  | cons h1 r1 => obtain ⟨b, c, i, rfl, h2, h3, h4⟩ := all3 r1; exact ⟨_, _, _, _, rfl, h1, h2, h3, h4⟩
theorem all5 {vs : List V} {d e f g i : PyData} (h : DpAll K H vs [d, e, f, g, i]) : ∃ a b c k l, vs = [a, b, c, k, l] ∧ Dp K H a d ∧ Dp K H b e ∧ Dp K H c f ∧ Dp K H k g ∧ Dp K H l i := by
  cases h with
  | cons h1 r1 => obtain ⟨b, c, k, l, rfl, h2, h3, h4, h5⟩ := all4 r1; exact ⟨_, _, _, _, _, rfl, h1, h2, h3, h4, h5⟩
theorem inv_num {n : Int} (h : Dp K H v (Part.num n).enc) : ∃ t, v = .ref t ∧ SqT K H t [.str "num", .int n] := by
  obtain ⟨t, xs, rfl, hT, ha⟩ := Dp.tup_inv (by simpa only [Part.enc] using h)
  obtain ⟨a, b, rfl, h1, h2⟩ := all2 ha
  cases h1; cases h2; exact ⟨_, rfl, hT⟩
theorem inv_name {x : Str} (h : Dp K H v (Part.name x).enc) : ∃ t, v = .ref t ∧ SqT K H t [.str "name", .str x] := by
  obtain ⟨t, xs, rfl, hT, ha⟩ := Dp.tup_inv (by simpa only [Part.enc] using h)
  obtain ⟨a, b, rfl, h1, h2⟩ := all2 ha
  cases h1; cases h2; exact ⟨_, rfl, hT⟩
theorem inv_add {a b : Part} (h : Dp K H v (Part.add a b).enc) : ∃ t va vb, v = .ref t ∧ SqT K H t [.str "add", va, vb] ∧ Dp K H va a.enc ∧ Dp K H vb b.enc := by
  obtain ⟨t, xs, rfl, hT, ha⟩ := Dp.tup_inv (by simpa only [Part.enc] using h)
  obtain ⟨a, b, c, rfl, h1, h2, h3⟩ := all3 ha
  cases h1; exact ⟨_, _, _, rfl, hT, h2, h3⟩
theorem inv_less {a b : Part} (h : Dp K H v (Part.less a b).enc) : ∃ t va vb, v = .ref t ∧ SqT K H t [.str "less", va, vb] ∧ Dp K H va a.enc ∧ Dp K H vb b.enc := by
  obtain ⟨t, xs, rfl, hT, ha⟩ := Dp.tup_inv (by simpa only [Part.enc] using h)
  obtain ⟨a, b, c, rfl, h1, h2, h3⟩ := all3 ha
  cases h1; exact ⟨_, _, _, rfl, hT, h2, h3⟩
theorem inv_ite {c a b : Part} (h : Dp K H v (Part.ite c a b).enc) : ∃ t vc va vb, v = .ref t ∧ SqT K H t [.str "if", vc, va, vb] ∧ Dp K H vc c.enc ∧ Dp K H va a.enc ∧ Dp K H vb b.enc := by
  obtain ⟨t, xs, rfl, hT, ha⟩ := Dp.tup_inv (by simpa only [Part.enc] using h)
  obtain ⟨a, b, c, d, rfl, h1, h2, h3, h4⟩ := all4 ha
  cases h1; exact ⟨_, _, _, _, rfl, hT, h2, h3, h4⟩
theorem inv_say {a : Part} (h : Dp K H v (Part.say a).enc) : ∃ t va, v = .ref t ∧ SqT K H t [.str "say", va] ∧ Dp K H va a.enc := by
  obtain ⟨t, xs, rfl, hT, ha⟩ := Dp.tup_inv (by simpa only [Part.enc] using h)
  obtain ⟨a, b, rfl, h1, h2⟩ := all2 ha
  cases h1; exact ⟨_, _, rfl, hT, h2⟩
theorem inv_lt {x : Str} {a b : Part} (h : Dp K H v (Part.lt x a b).enc) : ∃ t va vb, v = .ref t ∧ SqT K H t [.str "let", .str x, va, vb] ∧ Dp K H va a.enc ∧ Dp K H vb b.enc := by
  obtain ⟨t, xs, rfl, hT, ha⟩ := Dp.tup_inv (by simpa only [Part.enc] using h)
  obtain ⟨a, b, c, d, rfl, h1, h2, h3, h4⟩ := all4 ha
  cases h1; cases h2; exact ⟨_, _, _, rfl, hT, h3, h4⟩
theorem inv_fn {f : Str} {ps : List Str} {b r : Part} (h : Dp K H v (Part.fn f ps b r).enc) : ∃ t tp vb vr, v = .ref t ∧ SqT K H t [.str "fun", .str f, .ref tp, vb, vr] ∧ SqT K H tp (ps.map V.str) ∧ Dp K H vb b.enc ∧ Dp K H vr r.enc := by
  obtain ⟨t, xs, rfl, hT, ha⟩ := Dp.tup_inv (by simpa only [Part.enc] using h)
  obtain ⟨a, b, c, d, e, rfl, h1, h2, h3, h4, h5⟩ := all5 ha
  cases h1; cases h2
  obtain ⟨tp, ys, rfl, hT2, ha2⟩ := h3.tup_inv
  rw [ha2.strs_inv] at hT2
  exact ⟨_, _, _, _, rfl, hT, hT2, h4, h5⟩
theorem inv_call {f : Str} {as : Parts} (h : Dp K H v (Part.call f as).enc) : ∃ t ta vs, v = .ref t ∧ SqT K H t [.str "call", .str f, .ref ta] ∧ SqT K H ta vs ∧ DpAll K H vs (as.list.map Part.enc) := by
  obtain ⟨t, xs, rfl, hT, ha⟩ := Dp.tup_inv (by simpa only [Part.enc] using h)
  obtain ⟨a, b, c, rfl, h1, h2, h3⟩ := all3 ha
  cases h1; cases h2
  obtain ⟨ta, ys, rfl, hT2, ha2⟩ := h3.tup_inv
  rw [Parts.encs_list] at ha2
  exact ⟨_, _, _, rfl, hT, hT2, ha2⟩
end
theorem tupDs_P (l : List Part) : tupDs (l.map Part.enc) = true := tupDs_all fun x hx => by
  obtain ⟨a, _, rfl⟩ := List.mem_map.mp hx
  exact tup_enc a
/-! ### the parts that stand straight in a part: the law's and the program's -/
def spInner (K : PySem.W.Frag) : Sp := fun vs H Q _ => ∃ (v : V) (p : Part), vs = [v] ∧ Dp K H v p.enc ∧
  ∀ D ws H', Fr c0 H H' → H D = none → H' D = some (.lst ws) → DpAll K H' ws (p.inner.map Part.enc) → Q (.ref D) H'
theorem inn_end {K : PySem.W.Frag} {H H1 : Hp} {p : Part} {ws : List V} {Q : VK} (k : ∀ D ws H', Fr c0 H H' → H D = none → H' D = some (.lst ws) → DpAll K H' ws (p.inner.map Part.enc) → Q (.ref D) H')
    (f : Fr c0 H H1) (d : DpAll K H1 ws (p.inner.map Part.enc)) : ∀ l, H1 l = none → Q (.ref l) (upd H1 l (.lst ws)) := fun l hl =>
  k l ws _ (f.trans (Fr.new hl)) (f.free l hl) upd_same (Dp.frs (Fr.new (C := c0) hl) _ _ (tupDs_P _) d)
def t_linner (K : PySem.W.Frag) : TS :=
  (tSeq (tAsg (tOp (rIxT K) (tVar 0) (tC (.int 0))) (gName 1))
    (tSeq (tIfS (tTest (tOp (rIn K false) (tVar 1) (tTup (tCons (tC (.str "add")) (tCons (tC (.str "less")) (tCons (tC (.str "if")) tNil)))))) (tRet (tCB (rListSq K) (tCons (tSl (rSlT K) (tVar 0) (tPart (tC (.int 1))) tNoPart) tNil))) tNext)
    (tSeq (tIfS (tTest (tOp (rIn K false) (tVar 1) (tTup (tCons (tC (.str "let")) (tCons (tC (.str "fun")) tNil))))) (tRet (tCB (rListSq K) (tCons (tSl (rSlT K) (tVar 0) (tPart (tOp (rIxL K) (tLst (tCons (tC (.int 2)) (tCons (tC (.int 3)) tNil))) (tCB rInt1 (tCons (tOp rEq (tVar 1) (tC (.str "fun"))) tNil)))) tNoPart) tNil))) tNext)
    (tSeq (tIfS (tTest (tOp rEq (tVar 1) (tC (.str "call")))) (tRet (tCB (rListSq K) (tCons (tOp (rIxT K) (tVar 0) (tC (.int 2))) tNil))) tNext)
    (tRet (tOp rRep (tLst (tCons (tOp (rIxT K) (tVar 0) (tC (.int 1))) tNil)) (tCB rInt1 (tCons (tOp rEq (tVar 1) (tC (.str "say"))) tNil))))))))
theorem pure_linner {K : PySem.W.Frag} (vs : List V) (H : Hp) (Q : VK) (E : XK) (h : spInner K vs H Q E) : t_linner K { nx := fun _ H' => Q .non H', rt := Q } (start ["part", "word"] vs) H := by
  obtain ⟨v, p, rfl, hd, k⟩ := h
  have f3 : ∀ {t1 : Addr}, H t1 = none → Fr c0 H (upd H t1 (.tup [.str "add", .str "less", .str "if"])) := fun h => Fr.new h
  cases p with
  | num n =>
    obtain ⟨t, rfl, hT⟩ := inv_num hd
    refine ⟨_, rfl, t, _, _, _, rfl, rfl, hT, rfl, _, rfl, one_sz (by show 3 ≤ 1000; decide), fun t1 h1 => ⟨t1, _, rfl, .inr (SqT.of upd_same), rfl, rfl, _, rfl, ifF (by decide +kernel) ?_⟩⟩
    have g1 := f3 h1
    refine ⟨_, rfl, one_sz (by show 2 ≤ 1000; decide), fun t2 h2 => ⟨t2, _, rfl, .inr (SqT.of upd_same), rfl, rfl, _, rfl, ifF (by decide +kernel) ?_⟩⟩
    have g2 := g1.trans (Fr.new (o := .tup [.str "let", .str "fun"]) h2)
    refine ⟨_, rfl, rfl, _, rfl, ifF (by decide +kernel) ?_⟩
    refine ⟨_, rfl, t, _, _, _, rfl, rfl, g2.sqT hT, rfl, one_sz (by show 1 ≤ 1000; decide), fun l hl => ⟨_, rfl, rfl, .inr ⟨_, rfl, ?_⟩⟩⟩
    refine ⟨l, _, _, rfl, rfl, upd_same, by decide +kernel, by decide +kernel, rep_le, ?_⟩
    exact inn_end k (g2.trans (Fr.new hl)) .nil
  | name n =>
    obtain ⟨t, rfl, hT⟩ := inv_name hd
    refine ⟨_, rfl, t, _, _, _, rfl, rfl, hT, rfl, _, rfl, one_sz (by show 3 ≤ 1000; decide), fun t1 h1 => ⟨t1, _, rfl, .inr (SqT.of upd_same), rfl, rfl, _, rfl, ifF (by decide +kernel) ?_⟩⟩
    have g1 := f3 h1
    refine ⟨_, rfl, one_sz (by show 2 ≤ 1000; decide), fun t2 h2 => ⟨t2, _, rfl, .inr (SqT.of upd_same), rfl, rfl, _, rfl, ifF (by decide +kernel) ?_⟩⟩
    have g2 := g1.trans (Fr.new (o := .tup [.str "let", .str "fun"]) h2)
    refine ⟨_, rfl, rfl, _, rfl, ifF (by decide +kernel) ?_⟩
    refine ⟨_, rfl, t, _, _, _, rfl, rfl, g2.sqT hT, rfl, one_sz (by show 1 ≤ 1000; decide), fun l hl => ⟨_, rfl, rfl, .inr ⟨_, rfl, ?_⟩⟩⟩
    refine ⟨l, _, _, rfl, rfl, upd_same, by decide +kernel, by decide +kernel, rep_le, ?_⟩
    exact inn_end k (g2.trans (Fr.new hl)) .nil
  | say a =>
    obtain ⟨t, va, rfl, hT, da⟩ := inv_say hd
    refine ⟨_, rfl, t, _, _, _, rfl, rfl, hT, rfl, _, rfl, one_sz (by show 3 ≤ 1000; decide), fun t1 h1 => ⟨t1, _, rfl, .inr (SqT.of upd_same), rfl, rfl, _, rfl, ifF (by decide +kernel) ?_⟩⟩
    have g1 := f3 h1
    refine ⟨_, rfl, one_sz (by show 2 ≤ 1000; decide), fun t2 h2 => ⟨t2, _, rfl, .inr (SqT.of upd_same), rfl, rfl, _, rfl, ifF (by decide +kernel) ?_⟩⟩
    have g2 := g1.trans (Fr.new (o := .tup [.str "let", .str "fun"]) h2)
    refine ⟨_, rfl, rfl, _, rfl, ifF (by decide +kernel) ?_⟩
    refine ⟨_, rfl, t, _, _, _, rfl, rfl, g2.sqT hT, rfl, one_sz (by show 1 ≤ 1000; decide), fun l hl => ⟨_, rfl, rfl, .inr ⟨_, rfl, ?_⟩⟩⟩
    refine ⟨l, _, _, rfl, rfl, upd_same, by decide +kernel, by decide +kernel, rep_le, ?_⟩
    exact inn_end k (g2.trans (Fr.new hl)) (.cons (Dp.fr (g2.trans (Fr.new hl)) _ _ (tup_enc a) da) .nil)
  | add a b =>
    obtain ⟨t, va, vb, rfl, hT, da, db⟩ := inv_add hd
    refine ⟨_, rfl, t, _, _, _, rfl, rfl, hT, rfl, _, rfl, one_sz (by show 3 ≤ 1000; decide), fun t1 h1 => ⟨t1, _, rfl, .inr (SqT.of upd_same), rfl, rfl, _, rfl, ifT (by decide +kernel) ?_⟩⟩
    have g1 := f3 h1
    refine ⟨_, rfl, _, rfl, t, _, rfl, g1.sqT hT, nocut 1 (by decide) (by simp), fun t2 h2 => ?_⟩
    have g2 := g1.trans (Fr.new (o := .tup [va, vb]) h2)
    exact ⟨t2, [va, vb], rfl, .inr (SqT.of upd_same), inn_end k g2 (.cons (Dp.fr g2 _ _ (tup_enc a) da) (.cons (Dp.fr g2 _ _ (tup_enc b) db) .nil))⟩
  | less a b =>
    obtain ⟨t, va, vb, rfl, hT, da, db⟩ := inv_less hd
    refine ⟨_, rfl, t, _, _, _, rfl, rfl, hT, rfl, _, rfl, one_sz (by show 3 ≤ 1000; decide), fun t1 h1 => ⟨t1, _, rfl, .inr (SqT.of upd_same), rfl, rfl, _, rfl, ifT (by decide +kernel) ?_⟩⟩
    have g1 := f3 h1
    refine ⟨_, rfl, _, rfl, t, _, rfl, g1.sqT hT, nocut 1 (by decide) (by simp), fun t2 h2 => ?_⟩
    have g2 := g1.trans (Fr.new (o := .tup [va, vb]) h2)
    exact ⟨t2, [va, vb], rfl, .inr (SqT.of upd_same), inn_end k g2 (.cons (Dp.fr g2 _ _ (tup_enc a) da) (.cons (Dp.fr g2 _ _ (tup_enc b) db) .nil))⟩
  | ite c a b =>
    obtain ⟨t, vc, va, vb, rfl, hT, dc, da, db⟩ := inv_ite hd
    refine ⟨_, rfl, t, _, _, _, rfl, rfl, hT, rfl, _, rfl, one_sz (by show 3 ≤ 1000; decide), fun t1 h1 => ⟨t1, _, rfl, .inr (SqT.of upd_same), rfl, rfl, _, rfl, ifT (by decide +kernel) ?_⟩⟩
    have g1 := f3 h1
    refine ⟨_, rfl, _, rfl, t, _, rfl, g1.sqT hT, nocut 1 (by decide) (by simp), fun t2 h2 => ?_⟩
    have g2 := g1.trans (Fr.new (o := .tup [vc, va, vb]) h2)
    exact ⟨t2, [vc, va, vb], rfl, .inr (SqT.of upd_same), inn_end k g2 (.cons (Dp.fr g2 _ _ (tup_enc c) dc) (.cons (Dp.fr g2 _ _ (tup_enc a) da) (.cons (Dp.fr g2 _ _ (tup_enc b) db) .nil)))⟩
  | lt x a b =>
    obtain ⟨t, va, vb, rfl, hT, da, db⟩ := inv_lt hd
    refine ⟨_, rfl, t, _, _, _, rfl, rfl, hT, rfl, _, rfl, one_sz (by show 3 ≤ 1000; decide), fun t1 h1 => ⟨t1, _, rfl, .inr (SqT.of upd_same), rfl, rfl, _, rfl, ifF (by decide +kernel) ?_⟩⟩
    have g1 := f3 h1
    refine ⟨_, rfl, one_sz (by show 2 ≤ 1000; decide), fun t2 h2 => ⟨t2, _, rfl, .inr (SqT.of upd_same), rfl, rfl, _, rfl, ifT (by decide +kernel) ?_⟩⟩
    have g2 := g1.trans (Fr.new (o := .tup [.str "let", .str "fun"]) h2)
    refine ⟨_, rfl, one_sz (by show 2 ≤ 1000; decide), fun q hq => ⟨_, rfl, rfl, .inr ⟨_, rfl, ?_⟩⟩⟩
    have g3 := g2.trans (Fr.new (o := .lst [.int 2, .int 3]) hq)
    refine ⟨q, _, _, .int 2, rfl, rfl, SqL.of upd_same, by decide +kernel, _, rfl, t, _, rfl, g3.sqT hT, nocut 2 (by decide) (by simp), fun t4 h4 => ?_⟩
    have g4 := g3.trans (Fr.new (o := .tup [va, vb]) h4)
    exact ⟨t4, [va, vb], rfl, .inr (SqT.of upd_same), inn_end k g4 (.cons (Dp.fr g4 _ _ (tup_enc a) da) (.cons (Dp.fr g4 _ _ (tup_enc b) db) .nil))⟩
  | fn f ps a b =>
    obtain ⟨t, tp, va, vb, rfl, hT, _, da, db⟩ := inv_fn hd
    refine ⟨_, rfl, t, _, _, _, rfl, rfl, hT, rfl, _, rfl, one_sz (by show 3 ≤ 1000; decide), fun t1 h1 => ⟨t1, _, rfl, .inr (SqT.of upd_same), rfl, rfl, _, rfl, ifF (by decide +kernel) ?_⟩⟩
    have g1 := f3 h1
    refine ⟨_, rfl, one_sz (by show 2 ≤ 1000; decide), fun t2 h2 => ⟨t2, _, rfl, .inr (SqT.of upd_same), rfl, rfl, _, rfl, ifT (by decide +kernel) ?_⟩⟩
    have g2 := g1.trans (Fr.new (o := .tup [.str "let", .str "fun"]) h2)
    refine ⟨_, rfl, one_sz (by show 2 ≤ 1000; decide), fun q hq => ⟨_, rfl, rfl, .inr ⟨_, rfl, ?_⟩⟩⟩
    have g3 := g2.trans (Fr.new (o := .lst [.int 2, .int 3]) hq)
    refine ⟨q, _, _, .int 3, rfl, rfl, SqL.of upd_same, by decide +kernel, _, rfl, t, _, rfl, g3.sqT hT, nocut 3 (by decide) (by simp), fun t4 h4 => ?_⟩
    have g4 := g3.trans (Fr.new (o := .tup [va, vb]) h4)
    exact ⟨t4, [va, vb], rfl, .inr (SqT.of upd_same), inn_end k g4 (.cons (Dp.fr g4 _ _ (tup_enc a) da) (.cons (Dp.fr g4 _ _ (tup_enc b) db) .nil))⟩
  | call f as =>
    obtain ⟨t, ta, ws, rfl, hT, hA, da⟩ := inv_call hd
    refine ⟨_, rfl, t, _, _, _, rfl, rfl, hT, rfl, _, rfl, one_sz (by show 3 ≤ 1000; decide), fun t1 h1 => ⟨t1, _, rfl, .inr (SqT.of upd_same), rfl, rfl, _, rfl, ifF (by decide +kernel) ?_⟩⟩
    have g1 := f3 h1
    refine ⟨_, rfl, one_sz (by show 2 ≤ 1000; decide), fun t2 h2 => ⟨t2, _, rfl, .inr (SqT.of upd_same), rfl, rfl, _, rfl, ifF (by decide +kernel) ?_⟩⟩
    have g2 := g1.trans (Fr.new (o := .tup [.str "let", .str "fun"]) h2)
    refine ⟨_, rfl, rfl, _, rfl, ifT (by decide +kernel) ?_⟩
    exact ⟨_, rfl, t, _, _, _, rfl, rfl, g2.sqT hT, rfl, ta, ws, rfl, .inr (g2.sqT hA), inn_end k g2 (Dp.frs g2 _ _ (tupDs_P _) da)⟩
end BN
namespace BN
open PySem L2 PyProof.Rows
theorem eq_map_of_at {α β : Type} {ds : List α} {l : List β} {f : β → α} (hl : ds.length = l.length) (h : ∀ (k : Nat) (d : α), ds[k]? = some d → ∃ q, l[k]? = some q ∧ d = f q) : ds = l.map f := by
  refine List.ext_getElem? fun k => ?_
  rw [List.getElem?_map]
  cases e : ds[k]? with
  | none =>
    have : l[k]? = none := by rw [List.getElem?_eq_none_iff] at e ⊢; omega
    rw [this]; rfl
  | some d =>
    obtain ⟨q, hq, rfl⟩ := h k d e
    rw [hq]; rfl
/-! ### how many parts there are -/
def spSize (K : PySem.W.Frag) (n : Nat) : Sp := fun vs H Q _ => ∃ (v : V) (p : Part), vs = [v] ∧ Dp K H v p.enc ∧ p.dep ≤ n ∧ p.wid ≤ 1000 ∧ ∀ H', Fr c0 H H' → Q (.int p.size) H'
theorem sum_sizes : ∀ l : List Part, (l.map fun q => (q.size : Int)).sum = (sizesL l : Int)
  | [] => rfl
  | p :: r => by rw [List.map_cons, List.sum_cons, sum_sizes r, sizesL]; omega
def t_size (K : PySem.W.Frag) (n : Nat) : TS :=
  (tRet (tOp oAdd (tC (.int 1)) (tCB (rSum K) (tCons (tLc (iList K (tCall (spInner K) [] C8.E0 (tCons (tVar 0) tNil))) (gName 1) tYes (tCall (spSize K n) [] C8.E0 (tCons (tVar 1) tNil)) [1]) tNil))))
theorem pure_size {K : PySem.W.Frag} {n : Nat} (vs : List V) (H : Hp) (Q : VK) (E : XK) (h : spSize K (n + 1) vs H Q E) : t_size K n { nx := fun _ H' => Q .non H', rt := Q } (start ["part", "one"] vs) H := by
  obtain ⟨v, p, rfl, hd, hn, hw, k⟩ := h
  refine ⟨_, rfl, v, p, rfl, hd, fun D ws H1 f1 hD0 e da => ⟨D, rfl, ⟨ws, SqL.of e⟩, ?_⟩⟩
  have hl : ws.length = p.inner.length := by rw [da.len, List.length_map]
  refine lcG_list (K := K) (a := D) (xs := ws) (C := c0) (I := fun _ => True) (Good := fun i d => ∃ q, p.inner[i]? = some q ∧ d = .int q.size) (SqL.of e) (fun _ z => z) (fun _ _ _ _ _ => trivial) (fun _ _ _ z => z) trivial ?_ (fun i x hi H' f' _ Q' hQ => ?_) fun D2 vs ds H2 hD2 e2 da2 dl dg f2 _ => ?_
  · have := len_inner p; omega
  · obtain ⟨dd, hdd, Dx⟩ := da.getV hi
    obtain ⟨q, hq, rfl⟩ := map_at hdd
    have hm := List.mem_of_getElem? hq
    have h1 := dep_inner p q hm
    have h2 := wid_inner p q hm
    exact ⟨_, rfl, x, q, rfl, Dp.fr f' _ _ (tup_enc q) Dx, by omega, by omega, fun H3 f3 => hQ (.int q.size) _ _ ⟨q, hq, rfl⟩ rfl (.int _) f3 trivial⟩
  · have hds : ds = (p.inner.map fun q => (q.size : Int)).map PyData.int := by
      rw [List.map_map]
      exact eq_map_of_at (by rw [dl, hl]) fun k d hk => (dg k d hk).1
    rw [hds] at da2
    refine ⟨D2, _, rfl, SqL.of (by rw [← da2.ints_inv]; exact e2), _, _, rfl, rfl, ?_⟩
    rw [sum_sizes]
    have := size_inner p
    have e3 : (1 : Int) + (sizesL p.inner : Int) = (p.size : Int) := by omega
    show Q (.int (1 + (sizesL p.inner : Int))) H2
    rw [e3]
    exact k _ (f1.trans f2)
/-! ### numbers for the inputs -/
def spNumbers (K : PySem.W.Frag) : Sp := fun vs H Q _ => ∃ (bx il pr ti : Addr) (vp : V) (ins : List Str), vs = [.ref bx, .ref pr] ∧ Box H bx il ∧ SqT K H pr [.ref ti, vp] ∧ SqT K H ti (ins.map V.str) ∧ ins.length ≤ 1000 ∧
  ∀ (t : Addr) (ns : List Int) H', ns.length = ins.length → (∀ n ∈ ns, 0 ≤ n ∧ n ≤ 99) → H' t = some (.tup (ns.map V.int)) → Fr (cB bx il) H H' → Box H' bx il → Q (.ref t) H'
def t_numbers (K : PySem.W.Frag) : TS :=
  (tRet (tCB (rTupSq K) (tCons (tLc (iTup K (tOp (rIxT K) (tVar 1) (tC (.int 0)))) (gName 2) tYes (tCall spTake [] C8.E0 (tCons (tVar 0) (tCons (tOp (rIxL K) (tLst (tCons (tC (.int 4)) (tCons (tC (.int 100)) tNil))) (tCB rInt1 (tCons (tOp rEq (tCall spTake [] C8.E0 (tCons (tVar 0) (tCons (tC (.int 3)) tNil))) (tC (.int 1))) tNil))) tNil))) [2]) tNil)))
theorem pure_numbers {K : PySem.W.Frag} (vs : List V) (H : Hp) (Q : VK) (E : XK) (h : spNumbers K vs H Q E) : t_numbers K { nx := fun _ H' => Q .non H', rt := Q } (start ["box", "program", "name"] vs) H := by
  obtain ⟨bx, il, pr, ti, vp, ins, rfl, B, hp, hi, hl, k⟩ := h
  refine ⟨_, rfl, pr, _, _, _, rfl, rfl, hp, rfl, ti, rfl, ⟨_, hi⟩, ?_⟩
  refine lcG_tup (K := K) (a := ti) (xs := ins.map V.str) (C := cB bx il) (I := fun H => Box H bx il) (Good := fun _ d => ∃ z : Int, (0 ≤ z ∧ z ≤ 99) ∧ d = .int z) hi (box_up B) (box_no B) B (by rw [List.length_map]; omega) (fun i x hx H' f' B' Q' hQ => ?_) fun D vs ds H2 hD e da dl dg f2 B2 => ?_
  · refine ⟨_, rfl, one_sz (by show 2 ≤ 1000; decide), fun q hq => ?_⟩
    have f1 : Fr (cB bx il) H' (upd H' q (.lst [.int 4, .int 100])) := Fr.new hq
    have Lq : Ls (upd H' q (.lst [.int 4, .int 100])) bx il q [.int 4, .int 100] := Ls.new B' hq
    refine ⟨_, rfl, bx, il, 3, rfl, B'.new hq, by decide, by decide, fun r H3 r0 r3 f3 B3 => ⟨rfl, .inr ⟨_, rfl, ?_⟩⟩⟩
    have L3 := Lq.fr f3
    by_cases e : r = 1
    · subst e
      exact ⟨q, _, _, _, rfl, rfl, L3.sq, rfl, bx, il, 100, rfl, B3, by decide, by decide, fun z H4 h0 h1 f4 B4 => hQ (.int z) _ _ ⟨z, ⟨h0, by omega⟩, rfl⟩ rfl (.int _) ((f1.trans f3).trans f4) B4⟩
    · have d : decide (V.int r = V.int 1) = false := decide_eq_false fun z => e (V.int.inj z)
      rw [d]
      exact ⟨q, _, _, _, rfl, rfl, L3.sq, rfl, bx, il, 4, rfl, B3, by decide, by decide, fun z H4 h0 h1 f4 B4 => hQ (.int z) _ _ ⟨z, ⟨h0, by omega⟩, rfl⟩ rfl (.int _) ((f1.trans f3).trans f4) B4⟩
  · have intsOf : ∀ {ds : List PyData}, (∀ (k : Nat) (d : PyData), ds[k]? = some d → (∃ z : Int, (0 ≤ z ∧ z ≤ 99) ∧ d = .int z) ∧ tupD d = true) → ∃ ns : List Int, ds = ns.map PyData.int ∧ ∀ n ∈ ns, 0 ≤ n ∧ n ≤ 99 := fun {ds} => by
      induction ds with
      | nil => intro _; exact ⟨[], rfl, fun _ h => by simp at h⟩
      | cons d r ih =>
        intro h
        obtain ⟨⟨z, hz, rfl⟩, _⟩ := h 0 d rfl
        obtain ⟨ns, rfl, hn⟩ := ih fun k x hk => h (k + 1) x (by simpa using hk)
        exact ⟨z :: ns, rfl, fun n hm => (List.mem_cons.mp hm).elim (fun e => by subst e; exact hz) (hn n)⟩
    obtain ⟨ns, rfl, hn⟩ := intsOf dg
    have hv := da.ints_inv
    subst hv
    refine ⟨D, _, rfl, .inl ⟨SqL.of e, fun t ht => ?_⟩⟩
    rw [List.length_map, List.length_map] at dl
    exact k t ns _ dl hn upd_same (f2.trans (Fr.new ht)) (B2.new ht)
/-! ### alike: of the same data -/
def spAlike (K : PySem.W.Frag) (n : Nat) : Sp := fun vs H Q _ => ∃ (x y : V) (d : PyData), vs = [x, y] ∧ Dp K H x d ∧ Dp K H y d ∧ d.depth < n ∧ wd d ≤ 1000000 ∧ Q (.bl true) H
theorem tyT {K : PySem.W.Frag} {H : Hp} {a : Addr} {xs : List V} (h : SqT K H a xs) : TyX K H (.ref a) (.type "tuple") := by
  rcases h with (h | ⟨o, h⟩) | ⟨o, its, n, h, c, _⟩
  · exact .base (.tup h)
  · exact .fTuple h
  · exact .kTuple h c
theorem tyL {K : PySem.W.Frag} {H : Hp} {a : Addr} {xs : List V} (h : SqL K H a xs) : TyX K H (.ref a) (.type "list") := by
  rcases h with (h | ⟨o, h⟩) | ⟨o, its, n, h, c, _⟩
  · exact .base (.lst h)
  · exact .base (.frz h)
  · exact .kList h c
/-- isinstance(x, T), x in slot i -/
theorem isi_run {K : PySem.W.Frag} {H : Hp} {Q : VK} {σ : L2.St} {i : Nat} {x : V} {t T : String} {b : Bool} (hx : σ[i]? = some (some x)) (ht : TyX K H x (.type t)) (hb : kitB t T = some b) (q : Q (.bl b) H) :
    tCB (rIsi K) (tCons (tVar i) (tCons (tC (.ty T)) tNil)) σ H Q := ⟨x, hx, x, .ty T, .type t, .type T, b, rfl, .ty T, ht, kit_ty hb, q⟩
def t_alike (K : PySem.W.Frag) (n : Nat) : TS :=
  (tSeq (tIfS (tTest (tOp rIsN (tVar 1) (tC .non))) (tRet (tOp rIsN (tVar 0) (tC .non))) tNext)
    (tSeq (tIfS (tB (tCB (rIsi K) (tCons (tVar 1) (tCons (tC (.ty "bool")) tNil)))) (tRet (tAndV (tCB (rIsi K) (tCons (tVar 0) (tCons (tC (.ty "bool")) tNil))) (tOp rEq (tVar 0) (tVar 1)))) tNext)
    (tSeq (tIfS (tB (tCB (rIsi K) (tCons (tVar 1) (tCons (tC (.ty "int")) tNil)))) (tRet (tAndV (tCB (rIsi K) (tCons (tVar 0) (tCons (tC (.ty "int")) tNil))) (tAndV (tNotV (tCB (rIsi K) (tCons (tVar 0) (tCons (tC (.ty "bool")) tNil)))) (tOp rEq (tVar 0) (tVar 1))))) tNext)
    (tSeq (tIfS (tB (tCB (rIsi K) (tCons (tVar 1) (tCons (tC (.ty "str")) tNil)))) (tRet (tAndV (tCB (rIsi K) (tCons (tVar 0) (tCons (tC (.ty "str")) tNil))) (tOp rEq (tVar 0) (tVar 1)))) tNext)
    (tSeq (tIfS (tOr (tTest (tOp rNe (tCB (rIsi K) (tCons (tVar 1) (tCons (tC (.ty "tuple")) tNil))) (tCB (rIsi K) (tCons (tVar 0) (tCons (tC (.ty "tuple")) tNil))))) (tTest (tOp rNe (tCB (rIsi K) (tCons (tVar 1) (tCons (tC (.ty "list")) tNil))) (tCB (rIsi K) (tCons (tVar 0) (tCons (tC (.ty "list")) tNil)))))) (tRet (tC (.bl false))) tNext)
    (tSeq (tIfS (tTest (tOp rNe (tCB (rLenSq K) (tCons (tVar 0) tNil)) (tCB (rLenSq K) (tCons (tVar 1) tNil)))) (tRet (tC (.bl false))) tNext)
    (tSeq (tFor (iRng1 (tCons (tCB (rLenSq K) (tCons (tVar 1) tNil)) tNil)) (gName 2) (tIfS (tNot (tB (tCall (spAlike K n) [] C8.E0 (tCons (tOp (rIx K) (tVar 0) (tVar 2)) (tCons (tOp (rIx K) (tVar 1) (tVar 2)) tNil))))) (tRet (tC (.bl false))) tNext))
    (tRet (tC (.bl true))))))))))
theorem seq_alike {K : PySem.W.Frag} {n : Nat} {H : Hp} {Q : VK} {a b : Addr} {xs ys : List V} {ds : List PyData} (hx : SqL K H a xs ∨ SqT K H a xs) (hy : SqL K H b ys ∨ SqT K H b ys) (dx : DpAll K H xs ds) (dy : DpAll K H ys ds)
    (hn : PyData.depthAll ds < n) (hw : max ds.length (wds ds) ≤ 1000000) (k : Q (.bl true) H) :
    (tSeq (tIfS (tTest (tOp rNe (tCB (rLenSq K) (tCons (tVar 0) tNil)) (tCB (rLenSq K) (tCons (tVar 1) tNil)))) (tRet (tC (.bl false))) tNext)
    (tSeq (tFor (iRng1 (tCons (tCB (rLenSq K) (tCons (tVar 1) tNil)) tNil)) (gName 2) (tIfS (tNot (tB (tCall (spAlike K n) [] C8.E0 (tCons (tOp (rIx K) (tVar 0) (tVar 2)) (tCons (tOp (rIx K) (tVar 1) (tVar 2)) tNil))))) (tRet (tC (.bl false))) tNext))
    (tRet (tC (.bl true))))) { nx := fun _ H' => Q .non H', rt := Q } [some (.ref a), some (.ref b), none] H := by
  have lx := dx.len
  have ly := dy.len
  have ix : ∀ {p : Addr} {zs : List V} {i : Nat} {z : V} {σ : L2.St} {s : Nat} {R : VK}, (SqL K H p zs ∨ SqT K H p zs) → zs[i]? = some z → σ[s]? = some (some (.ref p)) → σ[2]? = some (some (.int (0 + (i : Nat)))) → R z H → tOp (rIx K) (tVar s) (tVar 2) σ H R :=
    fun {p zs i z σ s R} hp hz h1 h2 r => by
      have e : (0 + (i : Nat) : Int) = ((i : Nat) : Int) := Int.zero_add _
      rw [e] at h2
      rcases hp with hp | hp
      · exact ⟨_, h1, _, h2, .inl ⟨p, zs, _, z, rfl, rfl, hp, atI_nat hz, r⟩⟩
      · exact ⟨_, h1, _, h2, .inr (.inl ⟨p, zs, _, z, rfl, rfl, hp, atI_nat hz, r⟩)⟩
  refine ⟨_, rfl, a, _, rfl, hx, _, rfl, b, _, rfl, hy, rfl, _, rfl, ?_⟩
  have e : (!decide (V.int (xs.length : Nat) = V.int (ys.length : Nat))) = false := by rw [lx, ly]; simp
  rw [e]
  refine iteF ⟨_, rfl, b, _, rfl, hy, (ys.length : Nat), rfl, by omega, by omega, ?_⟩
  refine for_range (lo := 0) (n := ys.length) (fun i σ H' => H' = H ∧ ∃ v, σ = [some (.ref a), some (.ref b), v]) ⟨rfl, _, rfl⟩ ?_ ?_
  · rintro i σ H' hi ⟨rfl, v, rfl⟩
    obtain ⟨y, hy2⟩ := get_lt hi
    obtain ⟨d, hd, Dy⟩ := dy.getV hy2
    obtain ⟨x, hx2, Dx⟩ := dx.get hd
    have hm := List.mem_of_getElem? hd
    have h1 := dep_mem hm
    have h2 := wds_mem hm
    refine ix hx hx2 rfl rfl ?_
    refine ix hy hy2 rfl rfl ?_
    exact ⟨x, y, d, rfl, Dx, Dy, by omega, by omega, true, rfl, rfl, _, rfl⟩
  · rintro σ H' ⟨rfl, v, rfl⟩
    exact k
theorem pure_alike {K : PySem.W.Frag} {n : Nat} (vs : List V) (H : Hp) (Q : VK) (E : XK) (h : spAlike K (n + 1) vs H Q E) : t_alike K n { nx := fun _ H' => Q .non H', rt := Q } (start ["found", "due", "k"] vs) H := by
  obtain ⟨x, y, d, rfl, hx, hy, hn, hw, k⟩ := h
  cases d with
  | none =>
    cases hx; cases hy
    exact ⟨_, rfl, rfl, _, rfl, iteT ⟨_, rfl, rfl, k⟩⟩
  | bool b =>
    cases hx; cases hy
    refine ⟨_, rfl, rfl, _, rfl, ifF (by simp) ?_⟩
    refine isi_run rfl (.base (.bl b)) (b := true) (by decide +kernel) ⟨_, rfl, iteT ?_⟩
    refine isi_run rfl (.base (.bl b)) (b := true) (by decide +kernel) ⟨_, rfl, iteT ⟨_, rfl, _, rfl, by cases b <;> rfl, ?_⟩⟩
    rw [decide_eq_true rfl]; exact k
  | int i =>
    cases hx; cases hy
    refine ⟨_, rfl, rfl, _, rfl, ifF (by simp) ?_⟩
    refine isi_run rfl (.base (.int i)) (b := false) (by decide +kernel) ⟨_, rfl, iteF ?_⟩
    refine isi_run rfl (.base (.int i)) (b := true) (by decide +kernel) ⟨_, rfl, iteT ?_⟩
    refine isi_run rfl (.base (.int i)) (b := true) (by decide +kernel) ⟨_, rfl, iteT ?_⟩
    refine isi_run rfl (.base (.int i)) (b := false) (by decide +kernel) ⟨_, rfl, _, rfl, iteT ⟨_, rfl, _, rfl, rfl, ?_⟩⟩
    rw [decide_eq_true rfl]; exact k
  | str z =>
    cases hx; cases hy
    refine ⟨_, rfl, rfl, _, rfl, ifF (by simp) ?_⟩
    refine isi_run rfl (.base (.str z)) (b := false) (by decide +kernel) ⟨_, rfl, iteF ?_⟩
    refine isi_run rfl (.base (.str z)) (b := false) (by decide +kernel) ⟨_, rfl, iteF ?_⟩
    refine isi_run rfl (.base (.str z)) (b := true) (by decide +kernel) ⟨_, rfl, iteT ?_⟩
    refine isi_run rfl (.base (.str z)) (b := true) (by decide +kernel) ⟨_, rfl, iteT ⟨_, rfl, _, rfl, rfl, ?_⟩⟩
    rw [decide_eq_true rfl]; exact k
  | dict kvs => cases hx
  | list ds =>
    obtain ⟨a, xs, rfl, sx, dx⟩ := hx.lst_inv
    obtain ⟨b, ys, rfl, sy, dy⟩ := hy.lst_inv
    refine ⟨_, rfl, rfl, _, rfl, ifF (by simp) ?_⟩
    refine isi_run rfl (tyL sy) (b := false) (by decide +kernel) ⟨_, rfl, iteF ?_⟩
    refine isi_run rfl (tyL sy) (b := false) (by decide +kernel) ⟨_, rfl, iteF ?_⟩
    refine isi_run rfl (tyL sy) (b := false) (by decide +kernel) ⟨_, rfl, iteF ?_⟩
    refine isi_run rfl (tyL sy) (b := false) (by decide +kernel) (isi_run rfl (tyL sx) (b := false) (by decide +kernel) ⟨rfl, _, rfl, iteF ?_⟩)
    refine isi_run rfl (tyL sy) (b := true) (by decide +kernel) (isi_run rfl (tyL sx) (b := true) (by decide +kernel) ⟨rfl, _, rfl, iteF ?_⟩)
    exact seq_alike (.inl sx) (.inl sy) dx dy (by simp only [PyData.depth] at hn; omega) (by simpa only [wd] using hw) k
  | tuple ds =>
    obtain ⟨a, xs, rfl, sx, dx⟩ := hx.tup_inv
    obtain ⟨b, ys, rfl, sy, dy⟩ := hy.tup_inv
    refine ⟨_, rfl, rfl, _, rfl, ifF (by simp) ?_⟩
    refine isi_run rfl (tyT sy) (b := false) (by decide +kernel) ⟨_, rfl, iteF ?_⟩
    refine isi_run rfl (tyT sy) (b := false) (by decide +kernel) ⟨_, rfl, iteF ?_⟩
    refine isi_run rfl (tyT sy) (b := false) (by decide +kernel) ⟨_, rfl, iteF ?_⟩
    refine isi_run rfl (tyT sy) (b := true) (by decide +kernel) (isi_run rfl (tyT sx) (b := true) (by decide +kernel) ⟨rfl, _, rfl, iteF ?_⟩)
    refine isi_run rfl (tyT sy) (b := false) (by decide +kernel) (isi_run rfl (tyT sx) (b := false) (by decide +kernel) ⟨rfl, _, rfl, iteF ?_⟩)
    exact seq_alike (.inr sx) (.inr sy) dx dy (by simp only [PyData.depth] at hn; omega) (by simpa only [wd] using hw) k
end BN
namespace BN
open PySem L2 PyProof.Rows
/-! ### whole programs -/
def encP (ins : List Str) (p : Part) : PyData := .tuple [.tuple (ins.map .str), p.enc]
theorem tup_encP (ins : List Str) (p : Part) : tupD (encP ins p) = true := by simp [encP, tupD, tupDs, tupDs_str, tup_enc]
structure WsOk (ws : List Str) : Prop where
  w : ∀ x ∈ ws, wordB x = true
  nd : ws.Nodup
  l3 : 3 ≤ ws.length
  l5 : ws.length ≤ 5
structure Drawn (d : Int) (ins : List Str) (p : Part) : Prop where
  ex : ∃ (ws : List Str) (k : Nat), WsOk ws ∧ k ≤ 3 ∧ ins = ws.take k ∧ (Gen ws d ins [] p ∨ (∃ a b, p = .add a b ∧ Gen ws d ins [] a ∧ Gen ws d ins [] b) ∨ p = .say (.num 7))
  sz : p.size ≤ 199
structure ProgOk (ins : List Str) (p : Part) : Prop where
  il : ins.length ≤ 3
  nd : ins.Nodup
  iw : ∀ x ∈ ins, wordB x = true
  ok : p.ok ins (fun _ => none)
  sz : p.size ≤ 200
  dep : p.dep ≤ 15
  wid : p.wid ≤ 12
theorem lk_nil : lk [] = fun _ => none := by funext f; rfl
theorem Drawn.okP {d : Int} {ins : List Str} {p : Part} (h : Drawn d ins p) (h5 : d ≤ 5) : ProgOk ins p := by
  obtain ⟨ws, k, W, hk, rfl, g⟩ := h.ex
  have gd : gdep d ≤ 13 := by unfold gdep; split <;> omega
  have ok1 : ∀ {q}, Gen ws d (ws.take k) [] q → q.ok (ws.take k) (fun _ => none) ∧ q.dep ≤ 13 ∧ q.wid ≤ 4 := fun g => by
    have h1 := gen_ok W.w g (by simp)
    have h2 := gen_dep g
    rw [lk_nil] at h1
    exact ⟨h1, by omega, gen_wid g fun e he => by simp at he⟩
  have all : p.ok (ws.take k) (fun _ => none) ∧ p.dep ≤ 14 ∧ p.wid ≤ 4 := by
    rcases g with g | ⟨a, b, rfl, ga, gb⟩ | rfl
    · obtain ⟨h1, h2, h3⟩ := ok1 g; exact ⟨h1, by omega, h3⟩
    · obtain ⟨h1, h2, h3⟩ := ok1 ga
      obtain ⟨i1, i2, i3⟩ := ok1 gb
      simp only [Part.ok, Part.dep, Part.wid]
      exact ⟨⟨h1, i1⟩, by omega, by omega⟩
    · simp [Part.ok, Part.dep, Part.wid]
  exact ⟨by rw [List.length_take]; omega, (List.take_sublist _ _).nodup W.nd, fun x hx => W.w x (List.mem_of_mem_take hx), all.1, Nat.le_succ_of_le h.sz, Nat.le_succ_of_le all.2.1, Nat.le_trans all.2.2 (by decide)⟩
def spProgram (K : PySem.W.Frag) : Sp := fun vs H Q _ => ∃ (bx il : Addr) (d : Int), vs = [.ref bx, .int d] ∧ Box H bx il ∧ 1 ≤ d ∧ d ≤ 5 ∧
  ∀ ins p v H', Drawn d ins p → Dp K H' v (encP ins p) → Fr (cB bx il) H H' → Box H' bx il → Q v H'
def words4 : List (List Str) := [["a", "ab", "b"], ["x", "y", "z"], ["f", "fun", "let"], ["abc", "abcd", "bcda", "ab", "b"]]
theorem wsOk4 : ∀ ws ∈ words4, WsOk ws := fun ws h => by
  simp only [words4, List.mem_cons, List.mem_singleton, List.not_mem_nil, or_false] at h
  rcases h with rfl | rfl | rfl | rfl
  all_goals exact ⟨by decide +kernel, by decide +kernel, by decide, by decide⟩
def t_program (K : PySem.W.Frag) : TS :=
  (tSeq (tAsg (tLst (tCons (tLst (tCons (tC (.str "a")) (tCons (tC (.str "ab")) (tCons (tC (.str "b")) tNil)))) (tCons (tLst (tCons (tC (.str "x")) (tCons (tC (.str "y")) (tCons (tC (.str "z")) tNil)))) (tCons (tLst (tCons (tC (.str "f")) (tCons (tC (.str "fun")) (tCons (tC (.str "let")) tNil)))) (tCons (tLst (tCons (tC (.str "abc")) (tCons (tC (.str "abcd")) (tCons (tC (.str "bcda")) (tCons (tC (.str "ab")) (tCons (tC (.str "b")) tNil)))))) tNil))))) (gName 2))
    (tSeq (tAsg (tOp (rIxL K) (tVar 2) (tCall spTake [] C8.E0 (tCons (tVar 0) (tCons (tC (.int 4)) tNil)))) (gName 3))
    (tSeq (tAsg (tSl (rSlL K) (tVar 3) tNoPart (tPart (tCall spTake [] C8.E0 (tCons (tVar 0) (tCons (tC (.int 4)) tNil))))) (gName 4))
    (tSeq (tAsg (tCall (spPart K 7) [] C8.E0 (tCons (tVar 0) (tCons (tVar 1) (tCons (tVar 4) (tCons (tLst tNil) (tCons (tVar 3) tNil)))))) (gName 5))
    (tSeq (tIfS (tTest (tOp rEq (tCall spTake [] C8.E0 (tCons (tVar 0) (tCons (tC (.int 8)) tNil))) (tC (.int 7)))) (tAsg (tTup (tCons (tC (.str "add")) (tCons (tVar 5) (tCons (tCall (spPart K 7) [] C8.E0 (tCons (tVar 0) (tCons (tVar 1) (tCons (tVar 4) (tCons (tLst tNil) (tCons (tVar 3) tNil)))))) tNil)))) (gName 5)) tNext)
    (tRet (tTup (tCons (tCB (rTupSq K) (tCons (tVar 4) tNil)) (tCons (tIf (tTest (tOp oLt (tCall (spSize K 20) [] C8.E0 (tCons (tVar 5) tNil)) (tC (.int 200)))) (tVar 5) (tTup (tCons (tC (.str "say")) (tCons (tTup (tCons (tC (.str "num")) (tCons (tC (.int 7)) tNil))) tNil)))) tNil)))))))))
theorem pure_program {K : PySem.W.Frag} (vs : List V) (H : Hp) (Q : VK) (E : XK) (h : spProgram K vs H Q E) : t_program K { nx := fun _ H' => Q .non H', rt := Q } (start ["box", "deep", "some", "words", "inputs", "part"] vs) H := by
  obtain ⟨bx, il, d, rfl, B, hd1, hd5, k⟩ := h
  -- the words
  refine ⟨one_sz (by show 3 ≤ 1000; decide), fun p1 h1 => ⟨one_sz (by show 3 ≤ 1000; decide), fun p2 h2 => ⟨one_sz (by show 3 ≤ 1000; decide), fun p3 h3 => ⟨one_sz (by show 5 ≤ 1000; decide), fun p4 h4 => ⟨one_sz (by show 4 ≤ 1000; decide), fun s hs => ?_⟩⟩⟩⟩⟩
  generalize e1 : upd H p1 (.lst [.str "a", .str "ab", .str "b"]) = H1 at *
  have M1 : Ls H1 bx il p1 ((["a", "ab", "b"] : List Str).map V.str) := by rw [← e1]; exact Ls.new B h1
  have B1 : Box H1 bx il := by rw [← e1]; exact B.new h1
  have f1 : Fr (cB bx il) H H1 := by rw [← e1]; exact Fr.new h1
  generalize e2 : upd H1 p2 (.lst [.str "x", .str "y", .str "z"]) = H2 at *
  have f2 : Fr (cB bx il) H1 H2 := by rw [← e2]; exact Fr.new h2
  have M2 : Ls H2 bx il p2 ((["x", "y", "z"] : List Str).map V.str) := by rw [← e2]; exact Ls.new B1 h2
  have B2 : Box H2 bx il := by rw [← e2]; exact B1.new h2
  generalize e3 : upd H2 p3 (.lst [.str "f", .str "fun", .str "let"]) = H3 at *
  have f3 : Fr (cB bx il) H2 H3 := by rw [← e3]; exact Fr.new h3
  have M3 : Ls H3 bx il p3 ((["f", "fun", "let"] : List Str).map V.str) := by rw [← e3]; exact Ls.new B2 h3
  have B3 : Box H3 bx il := by rw [← e3]; exact B2.new h3
  generalize e4 : upd H3 p4 (.lst [.str "abc", .str "abcd", .str "bcda", .str "ab", .str "b"]) = H4 at *
  have f4 : Fr (cB bx il) H3 H4 := by rw [← e4]; exact Fr.new h4
  have M4 : Ls H4 bx il p4 ((["abc", "abcd", "bcda", "ab", "b"] : List Str).map V.str) := by rw [← e4]; exact Ls.new B3 h4
  have B4 : Box H4 bx il := by rw [← e4]; exact B3.new h4
  generalize e5 : upd H4 s (.lst [.ref p1, .ref p2, .ref p3, .ref p4]) = H5 at *
  have f5 : Fr (cB bx il) H4 H5 := by rw [← e5]; exact Fr.new hs
  have M5 : Ls H5 bx il s [.ref p1, .ref p2, .ref p3, .ref p4] := by rw [← e5]; exact Ls.new B4 hs
  have B5 : Box H5 bx il := by rw [← e5]; exact B4.new hs
  have f05 : Fr (cB bx il) H H5 := (((f1.trans f2).trans f3).trans f4).trans f5
  refine ⟨_, rfl, _, rfl, bx, il, 4, rfl, B5, by decide, by decide, fun r H6 r0 r1 f6 B6 => ?_⟩
  have pick : ∃ (w : Addr) (ws : List Str), atI [V.ref p1, .ref p2, .ref p3, .ref p4] r = some (.ref w) ∧ Ls H6 bx il w (ws.map V.str) ∧ WsOk ws := by
    have hr : r = 0 ∨ r = 1 ∨ r = 2 ∨ r = 3 := by omega
    rcases hr with rfl | rfl | rfl | rfl
    · exact ⟨p1, _, rfl, ((((M1.fr f2).fr f3).fr f4).fr f5).fr f6, wsOk4 _ (by simp [words4])⟩
    · exact ⟨p2, _, rfl, (((M2.fr f3).fr f4).fr f5).fr f6, wsOk4 _ (by simp [words4])⟩
    · exact ⟨p3, _, rfl, ((M3.fr f4).fr f5).fr f6, wsOk4 _ (by simp [words4])⟩
    · exact ⟨p4, _, rfl, (M4.fr f5).fr f6, wsOk4 _ (by simp [words4])⟩
  obtain ⟨w, ws, hat, Lw, W⟩ := pick
  refine ⟨s, _, _, _, rfl, rfl, (M5.fr f6).sq, hat, ?_⟩
  have lw : (ws.map V.str).length = ws.length := List.length_map _
  -- the inputs
  refine ⟨_, rfl, _, rfl, bx, il, 4, rfl, B6, by decide, by decide, fun r2 H7 r20 r21 f7 B7 => ?_⟩
  have Lw7 := Lw.fr f7
  refine ⟨_, rfl, w, _, rfl, Lw7.sq, fun q hq => ?_⟩
  have w3 := W.l3
  rw [cut_to r20 (by rw [lw]; omega), ← List.map_take]
  have B8 := B7.new (o := .lst ((ws.take r2.toNat).map V.str)) hq
  have Lq8 : Ls (upd H7 q (.lst ((ws.take r2.toNat).map V.str))) bx il q ((ws.take r2.toNat).map V.str) := Ls.new B7 hq
  have f8 : Fr (cB bx il) H7 (upd H7 q (.lst ((ws.take r2.toNat).map V.str))) := Fr.new hq
  have Lw8 := Lw7.fr f8
  generalize upd H7 q (.lst ((ws.take r2.toNat).map V.str)) = H8 at *
  have f08 : Fr (cB bx il) H H8 := ((f05.trans f6).trans f7).trans f8
  have hk : r2.toNat ≤ 3 := by omega
  have gd : gdep d ≤ 13 := by unfold gdep; split <;> omega
  have fin : ∀ (H' : Hp) (p : Part) (v : V), Dp K H' v p.enc → (Gen ws d (ws.take r2.toNat) [] p ∨ (∃ a b, p = .add a b ∧ Gen ws d (ws.take r2.toNat) [] a ∧ Gen ws d (ws.take r2.toNat) [] b)) → p.dep ≤ 14 → p.wid ≤ 4 → Fr (cB bx il) H8 H' → Box H' bx il →
      (tRet (tTup (tCons (tCB (rTupSq K) (tCons (tVar 4) tNil)) (tCons (tIf (tTest (tOp oLt (tCall (spSize K 20) [] C8.E0 (tCons (tVar 5) tNil)) (tC (.int 200)))) (tVar 5) (tTup (tCons (tC (.str "say")) (tCons (tTup (tCons (tC (.str "num")) (tCons (tC (.int 7)) tNil))) tNil)))) tNil))))
        { nx := fun _ H' => Q .non H', rt := Q } [some (.ref bx), some (.int d), some (.ref s), some (.ref w), some (.ref q), some v] H' := fun H' p v dv g hdep hwid f' B' => by
    have Lq' := Lq8.fr f'
    refine ⟨_, rfl, q, _, rfl, .inl ⟨Lq'.sq, fun ti hti => ?_⟩⟩
    have g1 : Fr (cB bx il) H' (upd H' ti (.tup ((ws.take r2.toNat).map V.str))) := Fr.new hti
    have dv1 := Dp.fr g1 _ _ (tup_enc p) dv
    have B1' := B'.new (o := .tup ((ws.take r2.toNat).map V.str)) hti
    have T1 : SqT K (upd H' ti (.tup ((ws.take r2.toNat).map V.str))) ti ((ws.take r2.toNat).map V.str) := SqT.of upd_same
    generalize upd H' ti (.tup ((ws.take r2.toNat).map V.str)) = H'1 at *
    refine ⟨_, rfl, v, p, rfl, dv1, by omega, by omega, fun H'2 f2 => ⟨_, _, rfl, rfl, _, rfl, ?_⟩⟩
    have f2' : Fr (cB bx il) H'1 H'2 := f2.of0
    have T2 := f2'.sqT T1
    have B2' : Box H'2 bx il := by
      obtain ⟨ns, sd, i1, i2, i3⟩ := B1'.ex
      exact ⟨ns, sd, f2.at i1 (fun z => z), f2.at i2 (fun z => z), i3⟩
    have f02 : Fr (cB bx il) H H'2 := ((f08.trans f').trans g1).trans f2'
    have dv2 := Dp.fr f2' _ _ (tup_enc p) dv1
    refine ite2 (fun hlt => ?_) fun _ => ?_
    · have hlt : (p.size : Int) < 200 := of_decide_eq_true hlt
      refine ⟨_, rfl, one_sz (by show 2 ≤ 1000; decide), fun t ht => ?_⟩
      refine k (ws.take r2.toNat) p _ _ ⟨⟨ws, r2.toNat, W, hk, rfl, g.elim Or.inl fun z => Or.inr (Or.inl z)⟩, by omega⟩ ?_ (f02.trans (Fr.new ht)) (B2'.new ht)
      exact .tup (SqT.of upd_same) (.cons (.tup ((Fr.new (C := c0) ht).sqT T2) (DpAll.strs _)) (.cons (Dp.fr (Fr.new (C := c0) ht) _ _ (tup_enc p) dv2) .nil))
    · refine ⟨one_sz (by show 2 ≤ 1000; decide), fun t1 h1 => ⟨one_sz (by show 2 ≤ 1000; decide), fun t2 h2 => ⟨one_sz (by show 2 ≤ 1000; decide), fun t ht => ?_⟩⟩⟩
      refine k (ws.take r2.toNat) (.say (.num 7)) _ _ ⟨⟨ws, r2.toNat, W, hk, rfl, Or.inr (Or.inr rfl)⟩, by simp [Part.size]⟩ ?_ (((f02.trans (Fr.new h1)).trans (Fr.new h2)).trans (Fr.new ht)) (((B2'.new h1).new h2).new ht)
      have j1 : Fr c0 (upd H'2 t1 (.tup [.str "num", .int 7])) (upd (upd H'2 t1 (.tup [.str "num", .int 7])) t2 (.tup [.str "say", .ref t1])) := Fr.new h2
      have j2 : Fr c0 (upd (upd H'2 t1 (.tup [.str "num", .int 7])) t2 (.tup [.str "say", .ref t1])) (upd (upd (upd H'2 t1 (.tup [.str "num", .int 7])) t2 (.tup [.str "say", .ref t1])) t (.tup [.ref ti, .ref t2])) := Fr.new ht
      refine .tup (SqT.of upd_same) (.cons (.tup ((((Fr.new h1).trans j1).trans j2 : Fr c0 _ _).sqT T2) (DpAll.strs _)) (.cons ?_ .nil))
      simp only [Part.enc]
      exact .tup (j2.sqT (SqT.of upd_same)) (.cons (.str _) (.cons (.tup ((j1.trans j2).sqT (SqT.of upd_same)) (.cons (.str _) (.cons (.int _) .nil))) .nil))
  -- the part
  have top : ∀ {H' : Hp} {e : Addr}, Fr (cB bx il) H8 H' → Box H' bx il → H' e = none → GenPre K (upd H' e (.lst [])) bx il d q e w (ws.take r2.toNat) [] [] ws := fun {H' e} f' B' he => by
    have g : Fr (cB bx il) H8 (upd H' e (.lst [])) := f'.trans (Fr.new he)
    exact ⟨B'.new he, Lq8.fr g, fun x hx => W.w x (List.mem_of_mem_take hx), Ls.new B' he, .nil, fun _ h => by simp at h, Lw8.fr g, W.w, W.nd, W.l3, W.l5, by rw [List.length_take]; omega, by simp; omega, fun _ h => by simp at h, by omega, hd5⟩
  refine ⟨_, rfl, _, rfl, _, rfl, one_sz (Nat.zero_le _), fun e he => ?_⟩
  refine ⟨_, rfl, bx, il, q, e, w, d, ws.take r2.toNat, [], [], ws, rfl, top (Fr.refl _) B8 he, by omega, fun pa va H10 ga da f10 B10 => ?_⟩
  have f810 : Fr (cB bx il) H8 H10 := (Fr.new he).trans f10
  have dga := gen_dep ga
  have wga := gen_wid ga fun e he => by simp at he
  refine ⟨_, rfl, bx, il, 8, rfl, B10, by decide, by decide, fun r3 H11 r30 r31 f11 B11 => ⟨rfl, _, rfl, ?_⟩⟩
  have f811 := f810.trans f11
  have da11 := Dp.fr f11 _ _ (tup_enc pa) da
  refine ite2 (fun _ => ?_) fun _ => fin H11 pa va da11 (.inl ga) (by omega) wga f811 B11
  refine ⟨_, rfl, _, rfl, _, rfl, _, rfl, one_sz (Nat.zero_le _), fun e2 he2 => ?_⟩
  refine ⟨_, rfl, bx, il, q, e2, w, d, ws.take r2.toNat, [], [], ws, rfl, top f811 B11 he2, by omega, fun pb vb H12 gb db f12 B12 => ⟨one_sz (by show 3 ≤ 1000; decide), fun t ht => ?_⟩⟩
  have f1112 : Fr (cB bx il) H11 H12 := (Fr.new he2).trans f12
  have dgb := gen_dep gb
  have wgb := gen_wid gb fun e he => by simp at he
  refine fin _ (.add pa pb) (.ref t) ?_ (.inr ⟨pa, pb, rfl, ga, gb⟩) (by simp only [Part.dep]; omega) (by simp only [Part.wid]; omega) ((f811.trans f1112).trans (Fr.new ht)) (B12.new ht)
  simp only [Part.enc]
  exact .tup (SqT.of upd_same) (.cons (.str _) (.cons (Dp.fr (f1112.trans (Fr.new ht)) _ _ (tup_enc pa) da11) (.cons (Dp.fr (Fr.new (C := c0) ht) _ _ (tup_enc pb) db) .nil)))
end BN
/-! Sets of keys of any kind (KeyKind), with the order's facts, so that they can be walked: SG. -/
namespace BNS
open PySem PySem.Spec PyProof.Rows L2
section
variable {P : Program} {w : World} {κ : Type} [DecidableEq κ] {knd : KeyKind P w κ}
/-- the rows of a set, by their keys -/
abbrev RowsK (knd : KeyKind P w κ) : List κ → List (Int × Value) → Prop := Paired fun k e => knd.is k e.2 = true ∧ e.1 = knd.hash k ∧ e.2.scannable = true
theorem rows_elems : ∀ {L : List κ} {l : List (Int × Value)}, RowsK knd L l → ElemsOf knd l
  | _, _, .nil, e, he => by cases he
  | _, _, .cons r t, e, he => by
    rcases List.mem_cons.mp he with q | q
    · rw [q]; exact ⟨⟨_, r.1, r.2.1⟩, r.2.2⟩
    · exact rows_elems t e q
theorem rows_has {k : κ} : ∀ {L : List κ} {l : List (Int × Value)}, RowsK knd L l → (k ∈ L ↔ ∃ e ∈ l, knd.is k e.2 = true)
  | _, _, .nil => by simp
  | _, _, .cons (a := j) (b := e) r t => by
    have ih := rows_has (k := k) t
    rw [List.mem_cons, ih]
    constructor
    · rintro (q | ⟨x, hx, q⟩)
      · exact ⟨e, List.mem_cons_self .., by rw [q]; exact r.1⟩
      · exact ⟨x, List.mem_cons_of_mem _ hx, q⟩
    · rintro ⟨x, hx, q⟩
      rcases List.mem_cons.mp hx with z | z
      · rw [z] at q; exact .inl (knd.inj _ _ _ q r.1)
      · exact .inr ⟨x, z, q⟩
theorem rows_perm {l l' : List (Int × Value)} (p : l.Perm l') : ∀ {L : List κ}, RowsK knd L l → ∃ L' : List κ, RowsK knd L' l' ∧ L.Perm L' := by
  induction p with
  | nil => intro L h; cases h; exact ⟨[], .nil, .nil⟩
  | cons x _ ih =>
    intro L h
    cases h with
    | cons r t => obtain ⟨L', h1, h2⟩ := ih t; exact ⟨_ :: L', .cons r h1, h2.cons _⟩
  | swap x y l =>
    intro L h
    cases h with
    | cons r t => cases t with
      | cons r2 t2 => exact ⟨_, .cons r2 (.cons r t2), .swap _ _ _⟩
  | trans _ _ ih1 ih2 =>
    intro L h
    obtain ⟨L1, a1, a2⟩ := ih1 h
    obtain ⟨L2, b1, b2⟩ := ih2 a1
    exact ⟨L2, b1, a2.trans b2⟩
def SG (knd : KeyKind P w κ) (h : Heap) (a : Addr) (L : List κ) : Prop :=
  ∃ o es ep t, h.get? a = some o ∧ o.ExactSet ∧ o.data = .set es ep t ∧ RowsK knd L es.toList ∧ L.Nodup ∧ L.length < scanBound ∧ t.fits es.size = true ∧ Ris t.place.toList ∧ (w.params.followText "set-order" = true ∨ t.led = true)
theorem rows_len {L : List κ} {es : Array (Int × Value)} (h : RowsK knd L es.toList) : es.size = L.length := by
  rw [← Array.length_toList]; exact (Paired.length h).symm
theorem SG.at {h h' : Heap} {a : Addr} {L : List κ} (R : SG knd h a L) (k : ∀ o, h.get? a = some o → h'.get? a = some o) : SG knd h' a L := by
  obtain ⟨o, es, ep, t, ho, r⟩ := R
  exact ⟨o, es, ep, t, k o ho, r⟩
theorem SG.setOf {h : Heap} {a : Addr} {L : List κ} (R : SG knd h a L) : h.SetOf knd a (fun k => decide (k ∈ L)) L.length := by
  obtain ⟨o, es, ep, t, ho, hx, hd, hr, nd, hb, hf, _⟩ := R
  exact ⟨o, es, ep, t, ho, hx, hd, rows_elems hr, fun k => by rw [decide_eq_true_eq]; exact rows_has hr, by rw [rows_len hr]; exact hb, hf, rows_len hr⟩
variable {A : Around} {E : Value → Shared → Prop} {s : Shared} {a : Addr} {L : List κ}
/-- the store behind a new row -/
theorem put_tail {g : Bool → Sem Unit} (hg : ∀ (b : Bool) (s₁ : Shared) (Q' : Unit → Shared → Prop), Q' () s₁ → wpAny (model P w) A (g b) Q' E s₁) {o : Obj} {es : Array (Int × Value)} {ep : Nat} {t : SetTable} (ho : s.heap.get? a = some o) (hex : o.ExactSet) (hd : o.data = .set es ep t)
    {es1 : Array (Int × Value)} {t2 : SetTable} {L1 : List κ} (r1 : RowsK knd L1 es1.toList) (nd1 : L1.Nodup) (hb1 : L1.length < scanBound) (hf2 : t2.fits es1.size = true) (hr : Ris t2.place.toList) (hl : w.params.followText "set-order" = true ∨ t2.led = true) {wasDummy : Bool} {R : Option Bool → Shared → Prop}
    (hR : ∀ (h' : Heap) (L' : List κ), Heap.SameBut a s.heap h' → SG knd h' a L' → L1.Perm L' → R (some true) { s with heap := h' }) :
    wpAny (model P w) A (do storeSet a es1 t2
                            if (!wasDummy && t2.tooFull) = true then do
                              g (relayAll t2 es1 (SetTable.grown es1.size)).2.2
                              storeSet a (relayAll t2 es1 (SetTable.grown es1.size)).1 (relayAll t2 es1 (SetTable.grown es1.size)).2.1
                              pure (some true)
                            else pure (some true)) R E s := by
  have hs1 : es1.size < scanBound := by rw [rows_len r1]; exact hb1
  refine wpAny_bind (wpAny_storeSet_of ho hd ?_ (fits_of_scanBound hs1))
  have ho1 := store_at (es' := es1) (t' := t2) ho hd
  have sb1 := Heap.SameBut.update s.heap a (Obj.putSet es1 t2)
  split
  · have pm := relayAll_perm t2 es1 (SetTable.grown es1.size); have hf3 := relayAll_fits t2 es1 (SetTable.grown es1.size)
    have hr3 := relayAll_ris t2 es1 (SetTable.grown es1.size); have hl3 := relayAll_led t2 es1 (SetTable.grown es1.size)
    generalize relayAll t2 es1 (SetTable.grown es1.size) = Z at pm hf3 hr3 hl3 ⊢
    obtain ⟨es2, t3, gave⟩ := Z; dsimp only at pm hf3 hr3 hl3 ⊢
    obtain ⟨L2, r2, p2⟩ := rows_perm pm.symm r1
    have hb2 : L2.length < scanBound := by rw [← p2.length_eq]; exact hb1
    refine wpAny_bind (hg _ _ _ (wpAny_bind (wpAny_storeSet_of ho1 rfl ?_ (fits_of_scanBound (by rw [rows_len r2]; exact hb2)))))
    exact wpAny_pure (hR _ L2 (sb1.trans (Heap.SameBut.update _ a _)) ⟨_, es2, _, t3, store_at (es' := es2) (t' := t3) ho1 rfl, hex, rfl, r2, p2.nodup_iff.mp nd1, hb2, hf3, hr3, hl.imp id fun z => by rw [hl3]; exact z⟩ p2)
  · exact wpAny_pure (hR _ L1 sb1 ⟨_, es1, _, t2, ho1, hex, rfl, r1, nd1, hb1, hf2, hr, hl⟩ (.refl _))
theorem add_hashed {k : κ} {x : Value} {Q : Bool → Shared → Prop} (hkey : knd.is k x = true) (hsc : x.scannable = true) (R : SG knd s.heap a L) (room : L.length + 1 < scanBound)
    (hQ : ∀ (h' : Heap) (L' : List κ) (b : Bool), Heap.SameBut a s.heap h' → SG knd h' a L' → (if k ∈ L then L else k :: L).Perm L' → Q b { s with heap := h' }) :
    wpAny (model P w) A (setAddHashed a x (knd.hash k)) Q E s := by
  obtain ⟨o, es, ep, t, ho, hex, hd, hrow, nd, hb, hf, hr, hl⟩ := R
  have hel := rows_elems hrow
  have hsz := rows_len hrow
  have hb0 : es.size < scanBound := by rw [hsz]; exact hb
  unfold setAddHashed setAddHashedIn; refine wpAny_holding (wpAny_bind (wpAny_setState_of ho hd hf ?_)); dsimp only
  rw [byScan_of hsc hb0 hel]; simp only [↓reduceIte]
  unfold setAddByScan; refine wpAny_bind (wpAny_bind (wpAny_rule (wpAny_bind (wpAny_setScan_of hkey ho hd hf hel ?_))))
  cases hfi : List.findIdx? (fun e => knd.is k e.2) es.toList with
  | some j =>
    dsimp only
    obtain ⟨hj, pj, _⟩ := List.findIdx?_eq_some_iff_getElem.mp hfi
    have hk : k ∈ L := (rows_has hrow).mpr ⟨es.toList[j], List.getElem_mem hj, pj⟩
    exact wpAny_pure (wpAny_pure (hQ s.heap L _ (Heap.SameBut.refl a s.heap) ⟨o, es, ep, t, ho, hex, hd, hrow, nd, hb, hf, hr, hl⟩ (by rw [if_pos hk])))
  | none =>
    dsimp only
    have hk : k ∉ L := fun z => by
      obtain ⟨e, he, q⟩ := (rows_has hrow).mp z
      have c := List.findIdx?_eq_none_iff.mp hfi e he
      rw [q] at c; cases c
    have pm := layNew_perm t es (knd.hash k) x; have hf1 := layNew_fits t es (knd.hash k) x
    have hr1 := layNew_ris t es (knd.hash k) x hr; have hl1 := layNew_led t es (knd.hash k) x
    generalize layNew t es (knd.hash k) x = Z at pm hf1 hr1 hl1 ⊢
    obtain ⟨es1, t1, wasDummy, gave⟩ := Z; dsimp only at pm hf1 hr1 hl1 ⊢
    rw [Array.toList_push] at pm
    have pc : ((knd.hash k, x) :: es.toList).Perm es1.toList := (pm.trans (List.perm_append_singleton _ _)).symm
    obtain ⟨L1, r1, p1⟩ := rows_perm pc (.cons ⟨hkey, rfl, hsc⟩ hrow : RowsK knd (k :: L) ((knd.hash k, x) :: es.toList))
    have nd1 : L1.Nodup := p1.nodup_iff.mp (List.nodup_cons.mpr ⟨hk, nd⟩)
    have hb1 : L1.length < scanBound := by rw [← p1.length_eq]; exact room
    have hled : w.params.followText "set-order" = true ∨ t1.led = true := hl.imp id fun z => by rw [hl1]; exact z
    have fin : ∀ (b : Bool) (h' : Heap) (L' : List κ), Heap.SameBut a s.heap h' → SG knd h' a L' → L1.Perm L' → Q b { s with heap := h' } := fun b h' L' sb r p => hQ h' L' b sb r (by rw [if_neg hk]; exact p1.trans p)
    have hg2 : ∀ (b : Bool) (s₁ : Shared) (Q' : Unit → Shared → Prop), Q' () s₁ → wpAny (model P w) A (match b with | true => rule "set.scan.the-table-gave-way" | false => pure ()) Q' E s₁ := fun b s₁ Q' q => by
      cases b
      · exact wpAny_pure q
      · exact wpAny_rule q
    refine wpAny_bind (hg2 _ _ _ ?_)
    split
    · refine wpAny_bind ?_; rw [hashByValue_scannable 8 hsc]; refine wpAny_pure ?_
      refine put_tail (knd := knd) (fun b s₁ Q' q => by cases b <;> first | exact wpAny_pure q | exact wpAny_rule q) ho hex hd r1 nd1 hb1 ?_ ?_ ?_ ?_
      · first | (split <;> first | exact hf1 | exact SetTable.fits_plain_off hf1) | exact hf1
      · first | (split <;> exact hr1) | exact hr1
      · first | (split <;> exact hled) | exact hled
      · intro h' L' sb r p; dsimp only; exact wpAny_pure (fin _ h' L' sb r p)
    · refine wpAny_bind (wpAny_pure ?_); simp only [↓reduceIte]
      refine put_tail (knd := knd) (fun b s₁ Q' q => by cases b <;> first | exact wpAny_pure q | exact wpAny_rule q) ho hex hd r1 nd1 hb1 hf1 hr1 hled ?_
      intro h' L' sb r p; dsimp only; exact wpAny_pure (fin _ h' L' sb r p)
end
end BNS
namespace BNS
open PySem PySem.Spec PyProof.Rows L2
section
variable {P : Program} {w : World} {κ : Type} [DecidableEq κ] {knd : KeyKind P w κ}
/-- what a set of these keys holds -/
def Holds (knd : KeyKind P w κ) (h : Heap) (a : Addr) (ks : List κ) : Prop := ∃ L, SG knd h a L ∧ L.length ≤ ks.length ∧ ∀ k, k ∈ L ↔ k ∈ ks
theorem Holds.at {h h' : Heap} {a : Addr} {ks : List κ} (R : Holds knd h a ks) (k : ∀ o, h.get? a = some o → h'.get? a = some o) : Holds knd h' a ks := by
  obtain ⟨L, r, q⟩ := R
  exact ⟨L, r.at k, q⟩
section
variable {A : Around} {R : Result → Shared → Prop} {I S : Addr} {fp wr : List Addr} {G : Array GenState → Array GenState → Prop} {n : Nat} {Pv : Nat → Value → Prop} {St : Nat → Shared → Prop}
theorem upd_loop (W : WalksS P w A.in1 I fp wr G n Pv St) (hSf : S ∉ fp) (ks : List κ) (hlen : ks.length = n) (hn : n ≤ 4000) (hval : ∀ i v, Pv i v → ∃ k, ks[i]? = some k ∧ knd.is k v = true ∧ v.scannable = true) :
    ∀ (m i : Nat) (s : Shared), i + m = n → St i s → Holds knd s.heap S (ks.take i) → (∀ s', Moved (S :: wr) G s s' → Holds knd s'.heap S ks → R (.ok (.ret .none)) s') →
      codeAny (model P w) A (.builtin "set.update.loop" ⟨[.ref S, .ref I], []⟩) R s
  | 0, i, s, hi, hst, hS, hR => by
    have hin : i = n := by omega
    subst hin
    refine codeAny_builtin F.entry_set_update_loop ?_; rw [Around.under_plainId F.plain_set_update_loop _]
    show wpAny _ A.in1 (pyNext (.ref I) >>= _) _ _ s; refine wpAny_bind (W.done s _ _ hst fun s' hm => ?_)
    refine wpAny_pure (hR s' (hm.mono fun b hb => List.mem_cons_of_mem _ hb) ?_)
    rw [← hlen, List.take_length] at hS
    exact hS.at fun o e => hm.heap S o (fun z => hSf (W.sub _ z)) e
  | m + 1, i, s, hi, hst, hS, hR => by
    have hlt : i < n := by omega
    refine codeAny_builtin F.entry_set_update_loop ?_; rw [Around.under_plainId F.plain_set_update_loop _]
    show wpAny _ A.in1 (pyNext (.ref I) >>= _) _ _ s; refine wpAny_bind (W.item i s _ _ hlt hst fun v s' hP hst' hm => ?_)
    obtain ⟨k, hk, hkey, hsc⟩ := hval i v hP
    obtain ⟨L, hL, hl, hmem⟩ := hS.at fun o e => hm.heap S o (fun z => hSf (W.sub _ z)) e
    rw [List.length_take] at hl
    show wpAny _ A.in1 (holding [v] (setAdd S v) >>= _) _ _ s'; refine wpAny_bind (wpAny_holding ?_)
    unfold setAdd; refine wpAny_holding (wpAny_bind (knd.pyHash hkey ?_))
    refine add_hashed (s := { s' with toks := s'.toks + 1 }) hkey hsc hL (by unfold scanBound; omega) fun h' L' b hsb hL' pm => ?_
    have hmv : Moved (S :: wr) G s { s' with heap := h', toks := s'.toks + 1 } := (hm.mono fun b hb => List.mem_cons_of_mem _ hb).then_heap (Nat.le_succ _) fun b o hb e => by
      rw [hsb.2 b (fun h => hb (by rw [h]; exact List.mem_cons_self))]; exact e
    refine wpAny_pure ⟨plainId_quiet F.plain_set_update_loop _, upd_loop W hSf ks hlen hn hval m (i + 1) _ (by omega) (W.frame _ s' _ _ hst' (Nat.le_succ _) fun b hb o e => ?_) ⟨L', hL', ?_, fun j => ?_⟩ fun s'' hm'' hS'' => hR s'' (Moved.trans W.gtrans hmv hm'') hS''⟩
    · rw [hsb.2 b (fun h => hSf (by rw [← h]; exact hb))]; exact e
    · rw [← pm.length_eq, List.length_take]
      split
      · omega
      · rw [List.length_cons]; omega
    · rw [← pm.mem_iff, BN.take_more hk, List.mem_append, List.mem_singleton]
      by_cases e : k ∈ L
      · rw [if_pos e, hmem]
        exact ⟨.inl, fun z => z.elim id fun q => by rw [q]; exact (hmem k).mp e⟩
      · rw [if_neg e, List.mem_cons, hmem]; exact Or.comm
end
abbrev set0 (w : World) : Obj := { cls := .type "set", dict := none, data := .set #[] 0 (.fresh 0 0 (!w.params.followText "set-order")) }
theorem holds0 {h : Heap} {a : Addr} (e : h.get? a = some (set0 w)) : Holds knd h a [] :=
  ⟨[], ⟨_, #[], 0, _, e, ⟨rfl, rfl, rfl⟩, rfl, .nil, List.nodup_nil, (by show 0 < scanBound; decide), by rfl, List.Pairwise.nil, by
    show _ ∨ (!w.params.followText "set-order") = true
    cases w.params.followText "set-order"
    · exact .inr rfl
    · exact .inl rfl⟩, Nat.le_refl _, fun _ => Iff.rfl⟩
variable {A : Around} {E : Value → Shared → Prop} {s : Shared}
/-- set(x), when its __init__ is run -/
theorem call_set_raw {x : Value} {Q : Value → Shared → Prop} (hinit : codeAny (model P w) A.in1 (.call (.builtin "set.__init__") ⟨[.ref s.heap.objs.size, x], []⟩) (wants (fun r s₂ => r = .none ∧ Q (.ref s.heap.objs.size) s₂) E) { s with heap := s.heap.push (set0 w) }) :
    wpAny (model P w) A (call (.type "set") [x]) Q E s := by
  obtain ⟨c, tl, hmro⟩ := PySem.F.called_set.mro; have hmade := PySem.F.called_set.made; have hsub := PySem.F.called_set.sub
  refine wpAny_call (codeAny_of_tree ?_); show wpAny _ _ (callAny (.type "set") _) _ _ _
  refine wpAny_pure ⟨Code.quiet_builtin _ (by decide +kernel), codeAny_builtin PySem.F.entry_type_call ?_⟩; rw [Around.under_plain (weight_type_call_type "set" [x] []) rfl]
  have h1 := PySem.F.called_set.notType; have h2 := PySem.F.called_set.canCreate; have hct := PySem.F.typeCall_set_1 x
  repeat (any_goals (first | assumption | wp_step))
  refine codeAny_mono (code_set_led1 x (E := E) (Q₁ := fun obj s₁ => obj = .ref s.heap.objs.size ∧ s₁ = { s with heap := s.heap.push (set0 w) }) ⟨rfl, rfl⟩) fun r s₁ hr => ?_
  cases r with
  | error e => exact hr
  | ok fl => cases fl with
    | ret obj =>
      obtain ⟨rfl, rfl⟩ := hr
      have hS : (s.heap.push (set0 w)).get? s.heap.objs.size = some (set0 w) := Heap.get?_push_size _ rfl
      have hT : Shared.TypeIs { s with heap := s.heap.push (set0 w) } (.ref s.heap.objs.size) "set" := ⟨_, hS, rfl⟩
      have hli := PySem.F.called_set.init.lookup; have hbi := PySem.F.called_set.init.bind (.ref s.heap.objs.size)
      clear h1 h2 hct hmro hmade hS
      repeat (any_goals (first | assumption | wp_step))
      all_goals
        refine codeAny_mono hinit fun r₂ s₂ hr₂ => ?_
        clear hinit hli hbi hT
        cases r₂ with
        | error e => exact hr₂
        | ok fl₂ => cases fl₂ with
          | ret r =>
            obtain ⟨rfl, hq⟩ := hr₂
            refine wpAny_pure ?_
            first | exact wpAny_pure hq | exact wpAny_pure ⟨_, rfl, hq⟩ | (repeat (any_goals (first | assumption | wp_step)))
          | _ => exact hr₂.elim
    | _ => exact hr.elim
theorem set_end {ks : List κ} {it : Obj} {s' : Shared} (hm : Moved [s.heap.objs.size, (s.heap.push (set0 w)).objs.size] (fun a b => b = a) { s with heap := (s.heap.push (set0 w)).push it } s') (hS' : Holds knd s'.heap s.heap.objs.size ks) :
    ∃ h' tk, s' = { s with heap := h', toks := tk } ∧ Holds knd h' s.heap.objs.size ks ∧ (∀ b o, s.heap.get? b = some o → h'.get? b = some o) := by
  obtain ⟨h', g', d', tk', os'⟩ := s'
  have eg : g' = s.gens := hm.gens
  have ed : d' = s.drawn := hm.drawn
  have eo : os' = s.os := hm.os
  subst eg ed eo
  refine ⟨h', tk', rfl, hS', fun b o e => hm.heap b o ?_ (Heap.get?_push_of_some _ (Heap.get?_push_of_some _ e))⟩
  have hb := Heap.lt_size e
  rw [Heap.size_push]
  simp only [List.mem_cons, List.not_mem_nil, or_false, not_or]
  exact ⟨Nat.ne_of_lt hb, Nat.ne_of_lt (Nat.lt_succ_of_lt hb)⟩
section
variable {l : Addr} {items : Array Value} {ks : List κ}
abbrev SetEnd (knd : KeyKind P w κ) (s : Shared) (ks : List κ) (s₂ : Shared) : Prop := ∃ h' tk, s₂ = { s with heap := h', toks := tk } ∧ Holds knd h' s.heap.objs.size ks ∧ (∀ b o, s.heap.get? b = some o → h'.get? b = some o)
theorem init_list (hh : A.handled = none) (hl : s.heap.IsList l items) (hlen : ks.length = items.size) (hn : ks.length ≤ 4000) (hval : ∀ (i : Nat) (v : Value), items[i]? = some v → ∃ k, ks[i]? = some k ∧ knd.is k v = true ∧ v.scannable = true) :
    codeAny (model P w) A.in1 (.call (.builtin "set.__init__") ⟨[.ref s.heap.objs.size, .ref l], []⟩) (wants (fun r s₂ => r = .none ∧ SetEnd knd s ks s₂) E) { s with heap := s.heap.push (set0 w) } := by
  have hS : (s.heap.push (set0 w)).get? s.heap.objs.size = some (set0 w) := Heap.get?_push_size _ rfl
  refine codeAny_call_builtin PySem.F.called_set.init.plain PySem.F.entry_set_init (check_set_init_1 ⟨_, hS, rfl⟩ ?_)
  obtain ⟨⟨oc, od, odt, osl⟩, hol, hcl, nl, hdl⟩ := hl
  simp only at hcl hdl; subst hcl hdl
  have hol' : (s.heap.push (set0 w)).get? l = some { cls := .type "list", dict := od, data := .seq items nl, slots := osl } := Heap.get?_push_of_some _ hol
  have hl1 : (s.heap.push (set0 w)).IsList l items := ⟨_, hol', rfl, nl, rfl⟩
  have hlS := Heap.lt_size hol
  have hh3 : A.in1.in1.in1.handled = none := by simp [hh]
  have hneI : l ≠ (s.heap.push (set0 w)).objs.size := by rw [Heap.size_push]; exact Nat.ne_of_lt (Nat.lt_succ_of_lt hlS)
  have fin := upd_loop (knd := knd) (R := fun r s' => r = .ok (.ret .none) ∧ SetEnd knd s ks s') ((Walks.list (prog := P) (w := w) hh3 _ l hneI items).toS) (S := s.heap.objs.size) (by
    rw [Heap.size_push]; simp only [List.mem_cons, List.not_mem_nil, or_false, not_or]
    exact ⟨Nat.ne_of_lt (Nat.lt_succ_self _), Nat.ne_of_gt hlS⟩) ks hlen (by omega) hval items.size 0 { s with heap := (s.heap.push (set0 w)).push { cls := .type "list_iterator", data := .fields #[.ref l, .int 0 0] } } (by omega) ⟨⟨_, Heap.get?_push_size _ rfl, rfl, rfl⟩, (hl1.push _)⟩ (holds0 (Heap.get?_push_of_some _ hS)) fun s' hm hS' => ⟨rfl, set_end hm hS'⟩
  have q1 := PySem.F.sub_list_set; have q2 := PySem.F.sub_list_frozenset; have q3 : (Value.type "list" == Value.type "dict") = false := by decide
  clear hval hlen hn hS hlS hol
  unfold Builtin.«set.__init__» noKeywords Builtin.Frozenset.updateFrom; generalize hPI : pyIter = PI; wp_walk; subst hPI
  all_goals
    refine wpAny_pyIter_list hl1 (wpAny_bind (wpAny_runValue (codeAny_mono fin fun r s' hr => ?_)))
    obtain ⟨rfl, q⟩ := hr
    exact wpAny_pure (wpAny_pure ⟨rfl, q⟩)
theorem init_tuple (hh : A.handled = none) (hl : s.heap.IsTuple l items) (hlen : ks.length = items.size) (hn : ks.length ≤ 4000) (hval : ∀ (i : Nat) (v : Value), items[i]? = some v → ∃ k, ks[i]? = some k ∧ knd.is k v = true ∧ v.scannable = true) :
    codeAny (model P w) A.in1 (.call (.builtin "set.__init__") ⟨[.ref s.heap.objs.size, .ref l], []⟩) (wants (fun r s₂ => r = .none ∧ SetEnd knd s ks s₂) E) { s with heap := s.heap.push (set0 w) } := by
  have hS : (s.heap.push (set0 w)).get? s.heap.objs.size = some (set0 w) := Heap.get?_push_size _ rfl
  refine codeAny_call_builtin PySem.F.called_set.init.plain PySem.F.entry_set_init (check_set_init_1 ⟨_, hS, rfl⟩ ?_)
  obtain ⟨⟨oc, od, odt, osl⟩, hol, hcl, nl, hdl⟩ := hl
  simp only at hcl hdl; subst hcl hdl
  have hol' : (s.heap.push (set0 w)).get? l = some { cls := .type "tuple", dict := od, data := .seq items nl, slots := osl } := Heap.get?_push_of_some _ hol
  have hl1 : (s.heap.push (set0 w)).IsTuple l items := ⟨_, hol', rfl, nl, rfl⟩
  have hlS := Heap.lt_size hol
  have hh3 : A.in1.in1.in1.handled = none := by simp [hh]
  have hneI : l ≠ (s.heap.push (set0 w)).objs.size := by rw [Heap.size_push]; exact Nat.ne_of_lt (Nat.lt_succ_of_lt hlS)
  have fin := upd_loop (knd := knd) (R := fun r s' => r = .ok (.ret .none) ∧ SetEnd knd s ks s') ((Walks.tuple (prog := P) (w := w) hh3 _ l hneI items).toS) (S := s.heap.objs.size) (by
    rw [Heap.size_push]; simp only [List.mem_cons, List.not_mem_nil, or_false, not_or]
    exact ⟨Nat.ne_of_lt (Nat.lt_succ_self _), Nat.ne_of_gt hlS⟩) ks hlen (by omega) hval items.size 0 { s with heap := (s.heap.push (set0 w)).push { cls := .type "tuple_iterator", data := .fields #[.ref l, .int 0 0] } } (by omega) ⟨⟨_, Heap.get?_push_size _ rfl, rfl, rfl⟩, (hl1.push _)⟩ (holds0 (Heap.get?_push_of_some _ hS)) fun s' hm hS' => ⟨rfl, set_end hm hS'⟩
  have q1 := PySem.F.sub_tuple_set; have q2 := PySem.F.sub_tuple_frozenset; have q3 : (Value.type "tuple" == Value.type "dict") = false := by decide
  clear hval hlen hn hS hlS hol
  unfold Builtin.«set.__init__» noKeywords Builtin.Frozenset.updateFrom; generalize hPI : pyIter = PI; wp_walk; subst hPI
  all_goals
    refine wpAny_pyIter_tuple hl1 (wpAny_bind (wpAny_runValue (codeAny_mono fin fun r s' hr => ?_)))
    obtain ⟨rfl, q⟩ := hr
    exact wpAny_pure (wpAny_pure ⟨rfl, q⟩)
/-- set(xs), xs a list or a tuple of such keys -/
theorem call_setK (ks : List κ) {Q : Value → Shared → Prop} (hh : A.handled = none) (hl : s.heap.IsList l items ∨ s.heap.IsTuple l items) (hlen : ks.length = items.size) (hn : ks.length ≤ 4000) (hval : ∀ (i : Nat) (v : Value), items[i]? = some v → ∃ k, ks[i]? = some k ∧ knd.is k v = true ∧ v.scannable = true)
    (h : ∀ (h' : Heap) (tk : Nat), Holds knd h' s.heap.objs.size ks → (∀ b o, s.heap.get? b = some o → h'.get? b = some o) → Q (.ref s.heap.objs.size) { s with heap := h', toks := tk }) : wpAny (model P w) A (call (.type "set") [.ref l]) Q E s := by
  have fin : ∀ r s₂, wants (fun r s₂ => r = .none ∧ SetEnd knd s ks s₂) E r s₂ → wants (fun r s₂ => r = .none ∧ Q (.ref s.heap.objs.size) s₂) E r s₂ := fun r s₂ hr => by
    cases r with
    | error e => exact hr
    | ok fl => cases fl with
      | ret v =>
        obtain ⟨e, h', tk, rfl, q1, q2⟩ := hr
        exact ⟨e, h h' tk q1 q2⟩
      | _ => exact hr
  rcases hl with hl | hl
  · exact call_set_raw (codeAny_mono (init_list hh hl hlen hn hval) fin)
  · exact call_set_raw (codeAny_mono (init_tuple hh hl hlen hn hval) fin)
end
end
end BNS
namespace BNS
open PySem PySem.Spec PyProof.Rows L2
/-! ### the rules: set(xs), len(set), sorted(set); texts and ints -/
def SetSO (P : Program) (w : World) (a : Addr) (xs : List Str) : HO := .ext fun h => Holds (PySem.strKind P w) h a xs
def SetIO (P : Program) (w : World) (a : Addr) (xs : List Int) : HO := .ext fun h => Holds (PySem.intKind P w) h a xs
def rSetS (K : PySem.W.Frag) (P : Program) (w : World) : List V → Hp → VK → Prop := fun vs H Q => ∃ (l : Addr) (xs : List Str), vs = [.ref l] ∧ (SqL K H l (xs.map V.str) ∨ SqT K H l (xs.map V.str)) ∧ xs.length ≤ 4000 ∧ ∀ p, H p = none → Q (.ref p) (upd H p (SetSO P w p xs))
def rSetI (K : PySem.W.Frag) (P : Program) (w : World) : List V → Hp → VK → Prop := fun vs H Q => ∃ (l : Addr) (xs : List Int), vs = [.ref l] ∧ (SqL K H l (xs.map V.int) ∨ SqT K H l (xs.map V.int)) ∧ xs.length ≤ 4000 ∧ ∀ p, H p = none → Q (.ref p) (upd H p (SetIO P w p xs))
def rLenSetS (P : Program) (w : World) : List V → Hp → VK → Prop := fun vs H Q => ∃ (p : Addr) (xs : List Str), vs = [.ref p] ∧ H p = some (SetSO P w p xs) ∧ ∀ L : List Str, L.Nodup → (∀ k, k ∈ L ↔ k ∈ xs) → Q (.int (L.length : Nat)) H
def rSortSetS (P : Program) (w : World) : List V → Hp → VK → Prop := fun vs H Q => ∃ (p : Addr) (xs : List Str), vs = [.ref p] ∧ H p = some (SetSO P w p xs) ∧ (∀ L : List Str, L.Nodup → (∀ k, k ∈ L ↔ k ∈ xs) → L.length < 64) ∧
  ∀ (ys : List Str) q, ys.Nodup → (∀ k, k ∈ ys ↔ k ∈ xs) → sortedS ys = true → H q = none → Q (.ref q) (upd H q (.lst (ys.map V.str)))
def rSortSetI (P : Program) (w : World) : List V → Hp → VK → Prop := fun vs H Q => ∃ (p : Addr) (xs : List Int), vs = [.ref p] ∧ H p = some (SetIO P w p xs) ∧ (∀ L : List Int, L.Nodup → (∀ k, k ∈ L ↔ k ∈ xs) → L.length < 64) ∧
  ∀ (ys : List Int) q, ys.Pairwise (· < ·) → (∀ k, k ∈ ys ↔ k ∈ xs) → H q = none → Q (.ref q) (upd H q (.lst (ys.map V.int)))
section
variable {X : Cx}
theorem ext_new {P : Program} {w : World} {κ : Type} [DecidableEq κ] {knd : PySem.KeyKind P w κ} {H : Hp} {h : Heap} {a : Addr} {ks : List κ} (R : Holds knd h a ks) : ObjOk P w H h a (.ext fun h => Holds knd h a ks) := by
  refine ⟨R, ?_, fun h1 h2 r k => r.at k⟩
  obtain ⟨L, ⟨o, es, ep, t, ho, _⟩, _⟩ := R
  exact ⟨o, ho⟩
theorem cr_setS (hc : X.calm = true) : CallR X (.type "set") (rSetS X.K X.prog X.w) := by
  intro pins s σ H xs us Q I r h
  obtain ⟨l, ks, rfl, hl, hn, q⟩ := h
  rw [Vals.ref1 r]
  have main : ∀ its : List Value, Vals (ks.map V.str) its → (s.heap.IsList l its.toArray ∨ s.heap.IsTuple l its.toArray) → wpAny (model X.prog X.w) X.A (call (.type "set") [.ref l]) (EP X pins σ Q) X.xe s := fun its rv hs => by
    have hlen := rv.length
    rw [List.length_map] at hlen
    refine call_setK (knd := PySem.strKind X.prog X.w) ks (I.ok.hd hc) hs (by rw [List.size_toArray]; exact hlen) hn (fun i v hv => ?_) fun h' tk R old => ?_
    · rw [List.getElem?_toArray] at hv
      cases e : ks[i]? with
      | none =>
        rw [List.getElem?_eq_none_iff] at e
        rw [List.getElem?_eq_none (by omega)] at hv; cases hv
      | some k =>
        obtain ⟨u, hu, ru⟩ := rv.get (i := i) (x := V.str k) (by rw [List.getElem?_map, e]; rfl)
        rw [hv] at hu; cases hu
        obtain ⟨t, rfl⟩ := ru
        exact ⟨k, rfl, PySem.strKind_is _ _ _ _, rfl⟩
    · exact ⟨.ref s.heap.objs.size, _, I.laid (t' := tk) (o := SetSO X.prog X.w s.heap.objs.size ks) old (Nat.le_refl _) (ext_new R), rfl, q _ (I.hok.fresh (Nat.le_refl _))⟩
  rcases hl with hl | hl
  · obtain ⟨its, rv, hs, _⟩ := I.list hl; exact main its rv (.inl hs.isList)
  · obtain ⟨its, rv, hs, _⟩ := I.tuple hl; exact main its rv (.inr hs)
theorem cr_setI (hc : X.calm = true) : CallR X (.type "set") (rSetI X.K X.prog X.w) := by
  intro pins s σ H xs us Q I r h
  obtain ⟨l, ks, rfl, hl, hn, q⟩ := h
  rw [Vals.ref1 r]
  have main : ∀ its : List Value, Vals (ks.map V.int) its → (s.heap.IsList l its.toArray ∨ s.heap.IsTuple l its.toArray) → wpAny (model X.prog X.w) X.A (call (.type "set") [.ref l]) (EP X pins σ Q) X.xe s := fun its rv hs => by
    have hlen := rv.length
    rw [List.length_map] at hlen
    refine call_setK (knd := PySem.intKind X.prog X.w) ks (I.ok.hd hc) hs (by rw [List.size_toArray]; exact hlen) hn (fun i v hv => ?_) fun h' tk R old => ?_
    · rw [List.getElem?_toArray] at hv
      cases e : ks[i]? with
      | none =>
        rw [List.getElem?_eq_none_iff] at e
        rw [List.getElem?_eq_none (by omega)] at hv; cases hv
      | some k =>
        obtain ⟨u, hu, ru⟩ := rv.get (i := i) (x := V.int k) (by rw [List.getElem?_map, e]; rfl)
        rw [hv] at hu; cases hu
        obtain ⟨t, rfl⟩ := ru
        exact ⟨k, rfl, PySem.intKind_is _ _ _ _, rfl⟩
    · exact ⟨.ref s.heap.objs.size, _, I.laid (t' := tk) (o := SetIO X.prog X.w s.heap.objs.size ks) old (Nat.le_refl _) (ext_new R), rfl, q _ (I.hok.fresh (Nat.le_refl _))⟩
  rcases hl with hl | hl
  · obtain ⟨its, rv, hs, _⟩ := I.list hl; exact main its rv (.inl hs.isList)
  · obtain ⟨its, rv, hs, _⟩ := I.tuple hl; exact main its rv (.inr hs)
theorem holds_of {pins : List (Addr × Obj)} {σ : L2.St} {H : Hp} {s : Shared} {p : Addr} {φ : Heap → Prop} (I : Inv X pins σ H s) (h : H p = some (.ext φ)) : φ s.heap := (I.hok p _ h).1
theorem cr_lenSetS : CallR X (.builtin "len") (rLenSetS X.prog X.w) := by
  intro pins s σ H xs us Q I r h
  obtain ⟨p, ks, rfl, hp, q⟩ := h
  rw [Vals.ref1 r]
  obtain ⟨L, ⟨o, es, ep, t, ho, hex, hd, hrow, nd, hb, hf, _⟩, _, hm⟩ := holds_of I hp
  have e := rows_len hrow
  refine call_len_set ho hex hd hf (by rw [e]; unfold scanBound at hb; omega) ⟨.int (L.length : Nat), H, I.tok _, ⟨_, by rw [e]⟩, q L nd hm⟩
theorem rows_strs {P : Program} {w : World} : ∀ {L : List Str} {l : List (Int × Value)}, RowsK (PySem.strKind P w) L l → StrsAre (l.map (·.2)) L
  | _, _, .nil => .nil
  | _, _, .cons (a := k) (b := e) r t => by
    obtain ⟨tk, ev⟩ := Value.isStrOf_shape (x := k) (v := e.2) r.1
    rw [List.map_cons, ev]
    exact .cons k tk (rows_strs t)
theorem rows_ints {P : Program} {w : World} : ∀ {L : List Int} {l : List (Int × Value)}, RowsK (PySem.intKind P w) L l → IntsAre (l.map (·.2)) L
  | _, _, .nil => .nil
  | _, _, .cons (a := k) (b := e) r t => by
    obtain ⟨tk, ev⟩ := Value.isInt_shape (k := k) (v := e.2) r.1
    rw [List.map_cons, ev]
    exact .cons k tk (rows_ints t)
theorem strs_perm {us vs : List Value} (p : us.Perm vs) : ∀ {L : List Str}, StrsAre us L → ∃ L', StrsAre vs L' ∧ L.Perm L' := by
  induction p with
  | nil => intro L h; cases h; exact ⟨[], .nil, .nil⟩
  | cons x _ ih =>
    intro L h
    cases h with
    | cons k t r => obtain ⟨L', h1, h2⟩ := ih r; exact ⟨k :: L', .cons k t h1, h2.cons _⟩
  | swap x y l =>
    intro L h
    cases h with
    | cons k t r => cases r with
      | cons k2 t2 r2 => exact ⟨_, .cons k2 t2 (.cons k t r2), .swap _ _ _⟩
  | trans _ _ ih1 ih2 =>
    intro L h
    obtain ⟨L1, a1, a2⟩ := ih1 h
    obtain ⟨L2, b1, b2⟩ := ih2 a1
    exact ⟨L2, b1, a2.trans b2⟩
theorem ints_perm {us vs : List Value} (p : us.Perm vs) : ∀ {L : List Int}, IntsAre us L → ∃ L', IntsAre vs L' ∧ L.Perm L' := by
  induction p with
  | nil => intro L h; cases h; exact ⟨[], .nil, .nil⟩
  | cons x _ ih =>
    intro L h
    cases h with
    | cons k t r => obtain ⟨L', h1, h2⟩ := ih r; exact ⟨k :: L', .cons k t h1, h2.cons _⟩
  | swap x y l =>
    intro L h
    cases h with
    | cons k t r => cases r with
      | cons k2 t2 r2 => exact ⟨_, .cons k2 t2 (.cons k t r2), .swap _ _ _⟩
  | trans _ _ ih1 ih2 =>
    intro L h
    obtain ⟨L1, a1, a2⟩ := ih1 h
    obtain ⟨L2, b1, b2⟩ := ih2 a1
    exact ⟨L2, b1, a2.trans b2⟩
theorem fin_laid {pins : List (Addr × Obj)} {σ : L2.St} {H : Hp} {s s' : Shared} {p : Addr} {o : HO} (I : Inv X pins σ H s) (k : ∀ b u, s.heap.get? b = some u → s'.heap.get? b = some u) (hp : s.heap.objs.size ≤ p) (new : ObjOk X.prog X.w (upd H p o) s'.heap p o) (hg : s'.gens = s.gens) (ho : s'.os = s.os) :
    Inv X pins σ (upd H p o) s' := by
  have J : Inv X pins σ (upd H p o) { s with heap := s'.heap, gens := s'.gens, drawn := s'.drawn, toks := s'.toks } :=
    I.call (ch := []) (Un.laid k hp (I.hok.fresh hp)) (I.hok.laid k hp new) (by rw [hg]; exact I.bare) (fun _ z => nomatch z)
  have e : { s with heap := s'.heap, gens := s'.gens, drawn := s'.drawn, toks := s'.toks } = s' := by
    cases s'; cases s; cases ho; rfl
  rw [e] at J
  exact J
theorem cr_sortSetS (hc : X.calm = true) : CallR X (.builtin "sorted") (rSortSetS X.prog X.w) := by
  intro pins s σ H xs us Q I r h
  obtain ⟨p, ks, rfl, hp, hsz, q⟩ := h
  rw [Vals.ref1 r]
  obtain ⟨L, ⟨o, es, ep, t, ho, hex, hd, hrow, nd, hb, hf, hr, hl⟩, _, hm⟩ := holds_of I hp
  have h64 := hsz L nd hm
  have e0 := rows_len hrow
  refine Calls.call_function_entry PyProof.Rows.kind_sorted PyProof.Rows.plain_sorted PyProof.Rows.entry_sorted (PyProof.Rows.args_sorted1 _) ?_
  unfold Builtin.«sorted»; refine wpAny_bind (m := checkCount "sorted" 1 1 _) (wpAny_pure (wpAny_bind (collect_set (A := X.A.in1) (I.ok.hd hc) ⟨o, ho, hex.1, hd⟩ hf (by rw [e0]; exact hb) hr hl fun s1 vs k1 hz g1 o1 pm => ?_)))
  obtain ⟨L1, hS, pL⟩ := strs_perm pm.symm (rows_strs hrow)
  have h64' : vs.length < 64 := by rw [hS.len_eq, ← pL.length_eq]; exact h64
  refine wpAny_bind (wpAny_newList ?_ (by rw [sizeLine_eq]; omega))
  have hoL : (s1.heap.push (seqObj "list" vs.toArray 0)).get? s1.heap.objs.size = some (seqObj "list" vs.toArray 0) := Heap.get?_push_size _ rfl
  refine wpAny_bind (wpAny_holding (wpAny_call_entry PyProof.Rows.slot_list_sort ⟨_, hoL, rfl⟩ PyProof.Rows.entry_list_sort (list_sort_treeK strKind_oneLt (s := { s1 with heap := s1.heap.push (seqObj "list" vs.toArray 0) }) hoL hS.keysOf (fun v₁ v₂ rest e => keyKind_strs (by rw [← e]; exact hS)) h64' fun st' hp' hs' => ⟨_, rfl, ?_⟩) (PyProof.Rows.args_list_sort _)))
  obtain ⟨ys, g1', g2, g3⟩ := sorted_out_str hS hp' hs'
  obtain ⟨e', he'⟩ := PyProof.Rows.sortedHeap_at (vs := vs) (out := (arrOf st').map (·.2)) hoL
  have pAll : ys.Perm L := g2.trans pL.symm
  have hlen : (ys.map V.str).length ≤ sizeLine := by rw [List.length_map, pAll.length_eq, sizeLine_eq]; omega
  refine wpAny_pure ⟨_, rfl, .ref s1.heap.objs.size, upd H s1.heap.objs.size (.lst (ys.map V.str)), fin_laid I (fun b u e => ?_) hz ?_ g1 o1, rfl, q ys _ (pAll.nodup_iff.mpr nd) (fun k => by rw [pAll.mem_iff, hm]) g3 (I.hok.fresh hz)⟩
  · have q' := k1 b u e
    have hlt := Heap.lt_size q'
    rw [PyProof.Rows.sortedHeap_old (Nat.ne_of_lt hlt) (by rw [size_push']; exact Nat.lt_succ_of_lt hlt)]
    exact Heap.get?_push_of_some _ q'
  · exact ⟨hlen, ((arrOf st').map (·.2)).toList, e', vals_of_strs g1', by rw [Array.toArray_toList]; exact he'⟩
theorem cr_sortSetI (hc : X.calm = true) : CallR X (.builtin "sorted") (rSortSetI X.prog X.w) := by
  intro pins s σ H xs us Q I r h
  obtain ⟨p, ks, rfl, hp, hsz, q⟩ := h
  rw [Vals.ref1 r]
  obtain ⟨L, ⟨o, es, ep, t, ho, hex, hd, hrow, nd, hb, hf, hr, hl⟩, _, hm⟩ := holds_of I hp
  have h64 := hsz L nd hm
  have e0 := rows_len hrow
  refine Calls.call_function_entry PyProof.Rows.kind_sorted PyProof.Rows.plain_sorted PyProof.Rows.entry_sorted (PyProof.Rows.args_sorted1 _) ?_
  unfold Builtin.«sorted»; refine wpAny_bind (m := checkCount "sorted" 1 1 _) (wpAny_pure (wpAny_bind (collect_set (A := X.A.in1) (I.ok.hd hc) ⟨o, ho, hex.1, hd⟩ hf (by rw [e0]; exact hb) hr hl fun s1 vs k1 hz g1 o1 pm => ?_)))
  obtain ⟨L1, hS, pL⟩ := ints_perm pm.symm (rows_ints hrow)
  have h64' : vs.length < 64 := by rw [hS.length, ← pL.length_eq]; exact h64
  refine wpAny_bind (wpAny_newList ?_ (by rw [sizeLine_eq]; omega))
  have hoL : (s1.heap.push (seqObj "list" vs.toArray 0)).get? s1.heap.objs.size = some (seqObj "list" vs.toArray 0) := Heap.get?_push_size _ rfl
  refine wpAny_bind (wpAny_holding (wpAny_call_entry PyProof.Rows.slot_list_sort ⟨_, hoL, rfl⟩ PyProof.Rows.entry_list_sort (list_sort_tree hoL hS h64' fun out ys a1 a2 a3 => ⟨_, rfl, ?_⟩) (PyProof.Rows.args_list_sort _)))
  obtain ⟨e', he'⟩ := PyProof.Rows.sortedHeap_at (vs := vs) (out := out) hoL
  have pAll : ys.Perm L := a2.trans pL.symm
  have hlen : (ys.map V.int).length ≤ sizeLine := by rw [List.length_map, pAll.length_eq, sizeLine_eq]; omega
  refine wpAny_pure ⟨_, rfl, .ref s1.heap.objs.size, upd H s1.heap.objs.size (.lst (ys.map V.int)), fin_laid I (fun b u e => ?_) hz ?_ g1 o1, rfl, q ys _ (lt_of_le_nodup ys a3 (pAll.nodup_iff.mpr nd)) (fun k => by rw [pAll.mem_iff, hm]) (I.hok.fresh hz)⟩
  · have q' := k1 b u e
    have hlt := Heap.lt_size q'
    rw [PyProof.Rows.sortedHeap_old (Nat.ne_of_lt hlt) (by rw [size_push']; exact Nat.lt_succ_of_lt hlt)]
    exact Heap.get?_push_of_some _ q'
  · exact ⟨hlen, out.toList, e', vals_of_ints a1, he'⟩
end
end BNS
namespace BN
open PySem L2 PyProof.Rows
/-! ### names -/
abbrev SMALLs : Str := "abcdefghijklmnopqrstuvwxyz"
def smallB (c : Nat) : Bool := decide (97 ≤ c) && decide (c ≤ 122)
theorem small_iff (c : Nat) : decide (c ∈ SMALLs.cps.toList) = smallB c := by
  have e : SMALLs.cps.toList = List.range' 97 26 := by decide +kernel
  rw [e]
  unfold smallB
  rw [← Bool.decide_and]
  refine decide_eq_decide.mpr ?_
  rw [List.mem_range'_1]
  omega
theorem all_filt {α : Type} (f : α → Bool) : ∀ l : List α, l.all f = (l.filter fun c => !f c).isEmpty
  | [] => rfl
  | a :: r => by
    have ih := all_filt f r
    by_cases h : f a <;> simp [h]
    simpa using ih
theorem wordB_eq (x : Str) : wordB x = (decide (1 ≤ x.length) && decide (x.length ≤ 4) && (x.cps.toList.filter fun c => !smallB c).isEmpty) := by
  unfold wordB
  rw [← all_filt, Array.all_toList]
  rfl
def badS (l : List Nat) : List Str := (l.filter fun c => !smallB c).map fun c => ⟨#[c]⟩
theorem badS_more {l : List Nat} {i c : Nat} (h : l[i]? = some c) : badS (l.take (i + 1)) = badS (l.take i) ++ (if smallB c = true then [] else [⟨#[c]⟩]) := by
  unfold badS
  rw [take_more h, List.filter_append, List.map_append]
  congr 1
  by_cases e : smallB c = true <;> simp [e]
/-- the signs of a text that are no small letters: [sign for sign in x if sign not in SMALL] == [] -/
theorem lc_bad {K : PySem.W.Frag} {x : Str} {σ : L2.St} {H : Hp} {Q : VK} {i j : Nat} (hi : σ[i]? = some (some (.str x))) (hj : j < σ.length) (hij : i ≠ j) (hl : x.length ≤ 1000) (hx : PyData.strOk x = true)
    (k : ∀ H', Fr c0 H H' → Q (.bl (x.cps.toList.filter fun c => !smallB c).isEmpty) H') :
    tOp (rEqD K) (tLc (iStr (tVar i)) (gName j) (tTest (tOp rNotInS (tVar j) (tC (.str SMALLs)))) (tVar j) [j]) (tLst tNil) σ H Q := by
  refine ⟨_, hi, x, rfl, fun D hD => ?_⟩
  refine lc_str (Pv := fun n H' => H' D = some (.lst ((badS (x.cps.toList.take n)).map V.str)) ∧ Fr c0 H H') ⟨upd_same, Fr.new hD⟩ (fun n c H' hc p => ⟨wipe1 _ _ _, ?_⟩) fun H' p => ?_
  · have hjv : ((wipe σ [j]).set j (some (.str ⟨#[c]⟩)))[j]? = some (some (.str ⟨#[c]⟩)) := by
      show ((σ.set j none).set j _)[j]? = _
      rw [List.set_set]
      simp [hj]
    have hc' : x.cps.toList[n]? = some c := by rw [Array.getElem?_toList]; exact hc
    have hm := badS_more hc'
    have hlen : n < x.length := at_lt hc'
    refine ⟨_, hjv, c, SMALLs, rfl, rfl, _, rfl, ?_⟩
    rw [small_iff]
    by_cases e : smallB c = true
    · rw [e]
      refine ifF rfl ?_
      rw [e] at hm
      refine ⟨?_, p.2⟩
      rw [hm]; simpa using p.1
    · have e' : smallB c = false := by simpa using e
      rw [e']
      refine ifT rfl ?_
      rw [e'] at hm
      refine ⟨_, hjv, _, p.1, ?_, ?_, p.2.fresh hD⟩
      · refine Nat.lt_of_le_of_lt (m := 1000) ?_ (small1000 (Nat.le_refl _))
        unfold badS
        rw [List.length_map, List.length_map]
        have h1 := List.length_filter_le (fun c => !smallB c) (x.cps.toList.take n)
        rw [List.length_take] at h1
        omega
      · rw [hm, List.map_append]
        exact upd_same
  · have eT : x.cps.toList.take x.cps.size = x.cps.toList := by rw [← Array.length_toList, List.take_length]
    rw [eT] at p
    refine ⟨one_sz (Nat.zero_le _), fun q hq => ⟨.list ((badS x.cps.toList).map .str), .list [], .lst (SqL.of ?_) (DpAll.strs _), .lst (SqL.of upd_same) .nil, shaped_strs fun y hy => ?_, rfl, ?_⟩⟩
    · rw [upd_ne (ne_of_none p.1 hq)]; exact p.1
    · obtain ⟨c, hc, rfl⟩ := List.mem_map.mp hy
      have hc := (List.mem_filter.mp hc).1
      unfold PyData.strOk at hx ⊢
      rw [← Array.all_toList, List.all_eq_true] at hx
      simpa using hx c hc
    · rw [eqv_lists_nil]
      have : ((badS x.cps.toList).map PyData.str).isEmpty = (x.cps.toList.filter fun c => !smallB c).isEmpty := by
        unfold badS
        cases (x.cps.toList.filter fun c => !smallB c) <;> rfl
      rw [this]
      exact k _ (p.2.trans (Fr.new hq))
def spIsWord (K : PySem.W.Frag) : Sp := fun vs H Q _ => ∃ x : Str, vs = [.str x] ∧ x.length ≤ 1000 ∧ PyData.strOk x = true ∧ ∀ H', Fr c0 H H' → Q (.bl (wordB x)) H'
def t_is_word (K : PySem.W.Frag) : TS :=
  (tRet (tAndV (tChain oLe oLe (tC (.int 1)) (tCB rLenStr (tCons (tVar 0) tNil)) (tC (.int 4))) (tOp (rEqD K) (tLc (iStr (tVar 0)) (gName 1) (tTest (tOp rNotInS (tVar 1) (tC (.str "abcdefghijklmnopqrstuvwxyz")))) (tVar 1) [1]) (tLst tNil))))
theorem pure_is_word {K : PySem.W.Frag} (vs : List V) (H : Hp) (Q : VK) (E : XK) (h : spIsWord K vs H Q E) : t_is_word K { nx := fun _ H' => Q .non H', rt := Q } (start ["word", "sign"] vs) H := by
  obtain ⟨x, rfl, hl, hx, k⟩ := h
  rw [wordB_eq] at k
  refine ⟨_, rfl, x, rfl, one_sz hl, 1, _, rfl, rfl, _, rfl, ?_⟩
  by_cases h1 : (1 : Int) ≤ (x.length : Nat)
  · refine ifT (decide_eq_true h1) ⟨_, _, rfl, rfl, _, rfl, ?_⟩
    have e1 : decide (1 ≤ x.length) = true := decide_eq_true (by omega)
    rw [e1, Bool.true_and] at k
    by_cases h4 : ((x.length : Nat) : Int) ≤ 4
    · refine ifT (decide_eq_true h4) ?_
      have e4 : decide (x.length ≤ 4) = true := decide_eq_true (by omega)
      rw [e4, Bool.true_and] at k
      exact lc_bad rfl (by show 1 < 2; decide) (by decide) hl hx k
    · have e4 : decide (x.length ≤ 4) = false := decide_eq_false (by omega)
      rw [e4] at k
      exact ifF (decide_eq_false h4) (k H (Fr.refl _))
  · have e1 : decide (1 ≤ x.length) = false := decide_eq_false (by omega)
    rw [e1] at k
    refine ifF (decide_eq_false h1) ⟨_, rfl, ?_⟩
    exact ifF rfl (k H (Fr.refl _))
/-! ### several names -/
theorem nodup_len {α : Type} [DecidableEq α] {L xs : List α} (hL : L.Nodup) (h : ∀ k, k ∈ L ↔ k ∈ xs) : L.length = xs.length ↔ xs.Nodup := by
  constructor
  · intro e
    have key : ∀ (xs L : List α), L.Nodup → (∀ k, k ∈ L → k ∈ xs) → xs.length ≤ L.length → xs.Nodup := by
      intro xs
      induction xs with
      | nil => intro _ _ _ _; exact List.nodup_nil
      | cons a r ih =>
        intro L hL hs hl
        by_cases ha : a ∈ L
        · have h1 := hL.erase a
          have h2 : ∀ k, k ∈ L.erase a → k ∈ r := fun k hk => by
            have := (List.Nodup.mem_erase_iff hL).mp hk
            rcases List.mem_cons.mp (hs k this.2) with e | e
            · exact absurd e this.1
            · exact e
          have h3 := List.length_erase_of_mem ha
          rw [List.length_cons] at hl
          have hr := ih (L.erase a) h1 h2 (by omega)
          refine List.nodup_cons.mpr ⟨fun har => ?_, hr⟩
          have : L ⊆ r := fun k hk => by
            rcases List.mem_cons.mp (hs k hk) with e | e
            · subst e; exact har
            · exact e
          have := hL.length_le_of_subset this
          omega
        · have : L ⊆ r := fun k hk => by
            rcases List.mem_cons.mp (hs k hk) with e | e
            · subst e; exact absurd hk ha
            · exact e
          have := hL.length_le_of_subset this
          rw [List.length_cons] at hl
          omega
    exact key xs L hL (fun k hk => (h k).mp hk) (by omega)
  · intro hx
    have h1 := hL.length_le_of_subset fun k hk => (h k).mp hk
    have h2 := hx.length_le_of_subset fun k hk => (h k).mpr hk
    omega
def wordsB (xs : List Str) (m : Int) : Bool := decide ((xs.length : Int) ≤ m) && (decide xs.Nodup && (xs.map wordB).all id)
def spAreWords (K : PySem.W.Frag) : Sp := fun vs H Q _ => ∃ (a : Addr) (xs : List Str) (m : Int), vs = [.ref a, .int m] ∧ SqT K H a (xs.map V.str) ∧ xs.length ≤ 1000 ∧ (∀ x ∈ xs, x.length ≤ 1000 ∧ PyData.strOk x = true) ∧ ∀ H', Fr c0 H H' → Q (.bl (wordsB xs m)) H'
theorem bools_inv {K : PySem.W.Frag} {H : Hp} : ∀ {bs : List Bool} {vs : List V}, DpAll K H vs (bs.map PyData.bool) → vs = bs.map V.bl
  | [], _, h => by cases h; rfl
  | x :: r, _, h => by
    cases h with
    | cons h1 h2 => cases h1; rw [bools_inv h2]; rfl
def t_are_words (K : PySem.W.Frag) (P : Program) (w : World) : TS :=
  (tRet (tAndV (tOp oLe (tCB (rLenSq K) (tCons (tVar 0) tNil)) (tVar 1)) (tAndV (tOp rEq (tCB (BNS.rLenSetS P w) (tCons (tCB (BNS.rSetS K P w) (tCons (tVar 0) tNil)) tNil)) (tCB (rLenSq K) (tCons (tVar 0) tNil))) (tCB (rAll K) (tCons (tLc (iTup K (tVar 0)) (gName 2) tYes (tCall (spIsWord K) [] C8.E0 (tCons (tVar 2) tNil)) [2]) tNil)))))
theorem pure_are_words {K : PySem.W.Frag} {P : Program} {w : World} (vs : List V) (H : Hp) (Q : VK) (E : XK) (h : spAreWords K vs H Q E) : t_are_words K P w { nx := fun _ H' => Q .non H', rt := Q } (start ["words", "most", "word"] vs) H := by
  obtain ⟨a, xs, m, rfl, hT, hl, hx, k⟩ := h
  refine ⟨_, rfl, a, _, rfl, .inr hT, _, rfl, _, _, rfl, rfl, _, rfl, ?_⟩
  rw [List.length_map]
  unfold wordsB at k
  by_cases hm : (xs.length : Int) ≤ m
  · refine ifT (decide_eq_true hm) ?_
    rw [decide_eq_true hm, Bool.true_and] at k
    refine ⟨_, rfl, a, xs, rfl, .inr hT, by omega, fun p hp => ⟨p, xs, rfl, upd_same, fun L hL hk => ?_⟩⟩
    have f1 : Fr c0 H (upd H p (BNS.SetSO P w p xs)) := Fr.new hp
    refine ⟨_, rfl, a, _, rfl, .inr (f1.sqT hT), rfl, _, rfl, ?_⟩
    rw [List.length_map]
    have en := nodup_len hL hk
    by_cases hn : xs.Nodup
    · have e := en.mpr hn
      refine ifT (by rw [e]; exact decide_eq_true rfl) ?_
      rw [decide_eq_true hn, Bool.true_and] at k
      refine ⟨_, rfl, a, rfl, ⟨_, f1.sqT hT⟩, ?_⟩
      refine lcG_tup (K := K) (a := a) (xs := xs.map V.str) (C := c0) (I := fun _ => True) (Good := fun i d => ∃ q, xs[i]? = some q ∧ d = .bool (wordB q)) (f1.sqT hT) (fun _ _ _ _ _ => trivial) (fun _ _ _ z => z) trivial (by rw [List.length_map]; omega) (fun i v hi H' f' _ Q' hQ => ?_) fun D2 vs ds H2 hD2 e2 da2 dl dg f2 _ => ?_
      · obtain ⟨q, hq, rfl⟩ := map_at hi
        have := hx q (List.mem_of_getElem? hq)
        exact ⟨_, rfl, q, rfl, this.1, this.2, fun H3 f3 => hQ (.bool (wordB q)) _ _ ⟨q, hq, rfl⟩ rfl (.bl _) f3 trivial⟩
      · have hds : ds = (xs.map wordB).map PyData.bool := by
          rw [List.map_map]
          refine eq_map_of_at (by rw [dl, List.length_map]) fun k d hk => ?_
          obtain ⟨q, hq, e⟩ := (dg k d hk).1
          exact ⟨q, hq, e⟩
        rw [hds] at da2
        exact ⟨D2, _, rfl, SqL.of (by rw [← bools_inv da2]; exact e2), k _ (f1.trans f2)⟩
    · have e : L.length ≠ xs.length := fun z => hn (en.mp z)
      refine ifF (decide_eq_false fun z => e (by have := V.int.inj z; omega)) ?_
      rw [decide_eq_false hn] at k
      exact k _ f1
  · rw [decide_eq_false hm] at k
    exact ifF (decide_eq_false hm) (k _ (Fr.refl _))
end BN
namespace BN
open PySem L2 PyProof.Rows
/-! ### inner_of of the program -/
def t_pinner (K : PySem.W.Frag) : TS :=
  (tSeq (tAsg (tOp (rIxT K) (tVar 0) (tC (.int 0))) (gName 1))
    (tSeq (tIfS (tTest (tOp (rIn K false) (tVar 1) (tTup (tCons (tC (.str "add")) (tCons (tC (.str "less")) (tCons (tC (.str "if")) tNil)))))) (tRet (tCB (rListSq K) (tCons (tSl (rSlT K) (tVar 0) (tPart (tC (.int 1))) tNoPart) tNil))) tNext)
    (tSeq (tIfS (tTest (tOp rEq (tVar 1) (tC (.str "say")))) (tRet (tLst (tCons (tOp (rIxT K) (tVar 0) (tC (.int 1))) tNil))) tNext)
    (tSeq (tIfS (tTest (tOp rEq (tVar 1) (tC (.str "let")))) (tRet (tCB (rListSq K) (tCons (tSl (rSlT K) (tVar 0) (tPart (tC (.int 2))) tNoPart) tNil))) tNext)
    (tSeq (tIfS (tTest (tOp rEq (tVar 1) (tC (.str "fun")))) (tRet (tCB (rListSq K) (tCons (tSl (rSlT K) (tVar 0) (tPart (tC (.int 3))) tNoPart) tNil))) tNext)
    (tRet (tIf (tTest (tOp rEq (tVar 1) (tC (.str "call")))) (tCB (rListSq K) (tCons (tOp (rIxT K) (tVar 0) (tC (.int 2))) tNil)) (tLst tNil))))))))
theorem pure_pinner {K : PySem.W.Frag} (vs : List V) (H : Hp) (Q : VK) (E : XK) (h : spInner K vs H Q E) : t_pinner K { nx := fun _ H' => Q .non H', rt := Q } (start ["part", "word"] vs) H := by
  obtain ⟨v, p, rfl, hd, k⟩ := h
  have f3 : ∀ {t1 : Addr}, H t1 = none → Fr c0 H (upd H t1 (.tup [.str "add", .str "less", .str "if"])) := fun h => Fr.new h
  cases p with
  | num n =>
    obtain ⟨t, rfl, hT⟩ := inv_num hd
    refine ⟨_, rfl, t, _, _, _, rfl, rfl, hT, rfl, _, rfl, one_sz (by show 3 ≤ 1000; decide), fun t1 h1 => ⟨t1, _, rfl, .inr (SqT.of upd_same), rfl, rfl, _, rfl, ifF (by decide +kernel) ?_⟩⟩
    have g1 := f3 h1
    refine ⟨_, rfl, rfl, _, rfl, ifF (by decide +kernel) ?_⟩
    refine ⟨_, rfl, rfl, _, rfl, ifF (by decide +kernel) ?_⟩
    refine ⟨_, rfl, rfl, _, rfl, ifF (by decide +kernel) ?_⟩
    refine ⟨_, rfl, rfl, _, rfl, ifF (by decide +kernel) ?_⟩
    exact ⟨one_sz (Nat.zero_le _), fun l hl => inn_end k g1 .nil l hl⟩
  | name n =>
    obtain ⟨t, rfl, hT⟩ := inv_name hd
    refine ⟨_, rfl, t, _, _, _, rfl, rfl, hT, rfl, _, rfl, one_sz (by show 3 ≤ 1000; decide), fun t1 h1 => ⟨t1, _, rfl, .inr (SqT.of upd_same), rfl, rfl, _, rfl, ifF (by decide +kernel) ?_⟩⟩
    have g1 := f3 h1
    refine ⟨_, rfl, rfl, _, rfl, ifF (by decide +kernel) ?_⟩
    refine ⟨_, rfl, rfl, _, rfl, ifF (by decide +kernel) ?_⟩
    refine ⟨_, rfl, rfl, _, rfl, ifF (by decide +kernel) ?_⟩
    refine ⟨_, rfl, rfl, _, rfl, ifF (by decide +kernel) ?_⟩
    exact ⟨one_sz (Nat.zero_le _), fun l hl => inn_end k g1 .nil l hl⟩
  | say a =>
    obtain ⟨t, va, rfl, hT, da⟩ := inv_say hd
    refine ⟨_, rfl, t, _, _, _, rfl, rfl, hT, rfl, _, rfl, one_sz (by show 3 ≤ 1000; decide), fun t1 h1 => ⟨t1, _, rfl, .inr (SqT.of upd_same), rfl, rfl, _, rfl, ifF (by decide +kernel) ?_⟩⟩
    have g1 := f3 h1
    refine ⟨_, rfl, rfl, _, rfl, ifT (by decide +kernel) ?_⟩
    refine ⟨_, rfl, t, _, _, _, rfl, rfl, g1.sqT hT, rfl, one_sz (by show 1 ≤ 1000; decide), fun l hl => ?_⟩
    exact inn_end k g1 (.cons (Dp.fr g1 _ _ (tup_enc a) da) .nil) l hl
  | add a b =>
    obtain ⟨t, va, vb, rfl, hT, da, db⟩ := inv_add hd
    refine ⟨_, rfl, t, _, _, _, rfl, rfl, hT, rfl, _, rfl, one_sz (by show 3 ≤ 1000; decide), fun t1 h1 => ⟨t1, _, rfl, .inr (SqT.of upd_same), rfl, rfl, _, rfl, ifT (by decide +kernel) ?_⟩⟩
    have g1 := f3 h1
    refine ⟨_, rfl, _, rfl, t, _, rfl, g1.sqT hT, nocut 1 (by decide) (by simp), fun t2 h2 => ?_⟩
    have g2 := g1.trans (Fr.new (o := .tup [va, vb]) h2)
    exact ⟨t2, [va, vb], rfl, .inr (SqT.of upd_same), inn_end k g2 (.cons (Dp.fr g2 _ _ (tup_enc a) da) (.cons (Dp.fr g2 _ _ (tup_enc b) db) .nil))⟩
  | less a b =>
    obtain ⟨t, va, vb, rfl, hT, da, db⟩ := inv_less hd
    refine ⟨_, rfl, t, _, _, _, rfl, rfl, hT, rfl, _, rfl, one_sz (by show 3 ≤ 1000; decide), fun t1 h1 => ⟨t1, _, rfl, .inr (SqT.of upd_same), rfl, rfl, _, rfl, ifT (by decide +kernel) ?_⟩⟩
    have g1 := f3 h1
    refine ⟨_, rfl, _, rfl, t, _, rfl, g1.sqT hT, nocut 1 (by decide) (by simp), fun t2 h2 => ?_⟩
    have g2 := g1.trans (Fr.new (o := .tup [va, vb]) h2)
    exact ⟨t2, [va, vb], rfl, .inr (SqT.of upd_same), inn_end k g2 (.cons (Dp.fr g2 _ _ (tup_enc a) da) (.cons (Dp.fr g2 _ _ (tup_enc b) db) .nil))⟩
  | ite c a b =>
    obtain ⟨t, vc, va, vb, rfl, hT, dc, da, db⟩ := inv_ite hd
    refine ⟨_, rfl, t, _, _, _, rfl, rfl, hT, rfl, _, rfl, one_sz (by show 3 ≤ 1000; decide), fun t1 h1 => ⟨t1, _, rfl, .inr (SqT.of upd_same), rfl, rfl, _, rfl, ifT (by decide +kernel) ?_⟩⟩
    have g1 := f3 h1
    refine ⟨_, rfl, _, rfl, t, _, rfl, g1.sqT hT, nocut 1 (by decide) (by simp), fun t2 h2 => ?_⟩
    have g2 := g1.trans (Fr.new (o := .tup [vc, va, vb]) h2)
    exact ⟨t2, [vc, va, vb], rfl, .inr (SqT.of upd_same), inn_end k g2 (.cons (Dp.fr g2 _ _ (tup_enc c) dc) (.cons (Dp.fr g2 _ _ (tup_enc a) da) (.cons (Dp.fr g2 _ _ (tup_enc b) db) .nil)))⟩
  | lt x a b =>
    obtain ⟨t, va, vb, rfl, hT, da, db⟩ := inv_lt hd
    refine ⟨_, rfl, t, _, _, _, rfl, rfl, hT, rfl, _, rfl, one_sz (by show 3 ≤ 1000; decide), fun t1 h1 => ⟨t1, _, rfl, .inr (SqT.of upd_same), rfl, rfl, _, rfl, ifF (by decide +kernel) ?_⟩⟩
    have g1 := f3 h1
    refine ⟨_, rfl, rfl, _, rfl, ifF (by decide +kernel) ?_⟩
    refine ⟨_, rfl, rfl, _, rfl, ifT (by decide +kernel) ?_⟩
    refine ⟨_, rfl, _, rfl, t, _, rfl, g1.sqT hT, nocut 2 (by decide) (by simp), fun t2 h2 => ?_⟩
    have g2 := g1.trans (Fr.new (o := .tup [va, vb]) h2)
    exact ⟨t2, [va, vb], rfl, .inr (SqT.of upd_same), inn_end k g2 (.cons (Dp.fr g2 _ _ (tup_enc a) da) (.cons (Dp.fr g2 _ _ (tup_enc b) db) .nil))⟩
  | fn f ps a b =>
    obtain ⟨t, tp, va, vb, rfl, hT, _, da, db⟩ := inv_fn hd
    refine ⟨_, rfl, t, _, _, _, rfl, rfl, hT, rfl, _, rfl, one_sz (by show 3 ≤ 1000; decide), fun t1 h1 => ⟨t1, _, rfl, .inr (SqT.of upd_same), rfl, rfl, _, rfl, ifF (by decide +kernel) ?_⟩⟩
    have g1 := f3 h1
    refine ⟨_, rfl, rfl, _, rfl, ifF (by decide +kernel) ?_⟩
    refine ⟨_, rfl, rfl, _, rfl, ifF (by decide +kernel) ?_⟩
    refine ⟨_, rfl, rfl, _, rfl, ifT (by decide +kernel) ?_⟩
    refine ⟨_, rfl, _, rfl, t, _, rfl, g1.sqT hT, nocut 3 (by decide) (by simp), fun t2 h2 => ?_⟩
    have g2 := g1.trans (Fr.new (o := .tup [va, vb]) h2)
    exact ⟨t2, [va, vb], rfl, .inr (SqT.of upd_same), inn_end k g2 (.cons (Dp.fr g2 _ _ (tup_enc a) da) (.cons (Dp.fr g2 _ _ (tup_enc b) db) .nil))⟩
  | call f as =>
    obtain ⟨t, ta, ws, rfl, hT, hA, da⟩ := inv_call hd
    refine ⟨_, rfl, t, _, _, _, rfl, rfl, hT, rfl, _, rfl, one_sz (by show 3 ≤ 1000; decide), fun t1 h1 => ⟨t1, _, rfl, .inr (SqT.of upd_same), rfl, rfl, _, rfl, ifF (by decide +kernel) ?_⟩⟩
    have g1 := f3 h1
    refine ⟨_, rfl, rfl, _, rfl, ifF (by decide +kernel) ?_⟩
    refine ⟨_, rfl, rfl, _, rfl, ifF (by decide +kernel) ?_⟩
    refine ⟨_, rfl, rfl, _, rfl, ifF (by decide +kernel) ?_⟩
    refine ⟨_, rfl, rfl, _, rfl, ifT (by decide +kernel) ?_⟩
    exact ⟨_, rfl, t, _, _, _, rfl, rfl, g1.sqT hT, rfl, ta, ws, rfl, .inr (g1.sqT hA), inn_end k g1 (Dp.frs g1 _ _ (tupDs_P _) da)⟩
end BN
namespace BN
open PySem L2 PyProof.Rows
/-! ### the program's Check -/
def cI (p : Addr) : CP := fun a _ => a = p
theorem Fr.hide {C C' : CP} {H H1 H2 : Hp} (f : Fr C' H H1) (g : Fr C H1 H2) (h : ∀ a o o', H a = some o → C a o' → C' a o) : Fr C' H H2 :=
  ⟨fun a o e n => g.keep a o (f.keep a o e n) fun z => n ⟨h a o o e z.1, z.2⟩, fun a e => f.free a (g.free a e)⟩
theorem Fr.hide0 {p : Addr} {H H1 H2 : Hp} (f : Fr c0 H H1) (hp : H p = none) (g : Fr (cI p) H1 H2) : Fr c0 H H2 :=
  f.hide g fun a o o' e z => by
    have : a = p := z
    subst this; rw [hp] at e; cases e
theorem Fr.setI {p : Addr} {H : Hp} {o o' : HO} (hp : H p = some o) (hm : Mut (some o)) : Fr (cI p) H (upd H p o') := Fr.set hp rfl hm
def fl1 (n : Nat) : List (Str × V) := [("place", .int (n : Int))]
theorem fl1_get (n : Nat) : (fl1 n).lookup ("place" : Str) = some (.int (n : Int)) := by simp [fl1, List.lookup]
theorem fl1_no (n : Nat) {m : Str} (h : ¬ m = "place") : (fl1 n).lookup m = none := by
  have e : (m == ("place" : Str)) = false := by simpa using h
  simp only [fl1, List.lookup, e]
theorem fl1_put (n m : Nat) : putF "place" (.int (m : Int)) (fl1 n) = fl1 m := by
  show (if ("place" : Str) = "place" then _ else _) = _
  rw [if_pos rfl]; rfl
structure ChkC (K : PySem.W.Frag) (C : Addr) : Prop where
  cl : Cls K C
  nP : NoAttr K C "place"
def spChkInit (C : Addr) : Sp := fun vs H Q _ => ∃ (p dx : Addr), vs = [.ref p] ∧ H p = some (.ins C dx []) ∧ Q .non (upd H p (.ins C dx (fl1 0)))
def t_chk_init (K : PySem.W.Frag) : TS :=
  (sFld K (tVar 0) (tC (.int 0)) "place")
theorem pure_chk_init {K : PySem.W.Frag} {C : Addr} (T : ChkC K C) (vs : List V) (H : Hp) (Q : VK) (E : XK) (h : spChkInit C vs H Q E) : t_chk_init K { nx := fun _ H' => Q .non H', rt := Q } (start ["self"] vs) H := by
  obtain ⟨p, dx, rfl, hp, k⟩ := h
  exact ⟨_, rfl, p, C, dx, [], rfl, hp, T.cl, T.nP, (by show 0 < 1000; decide), k⟩
def spMust : Sp := fun vs H Q _ => ∃ (p : V) (b : Bool) (n : Int), vs = [p, .bl b, .int n] ∧ b = true ∧ n < 200 ∧ Q .non H
def t_must  : TS :=
  (tIfS (tOr (tNot (tB (tVar 1))) (tTest (tOp oGe (tVar 2) (tC (.int 200))))) tNever tNext)
theorem pure_must (vs : List V) (H : Hp) (Q : VK) (E : XK) (h : spMust vs H Q E) : t_must { nx := fun _ H' => Q .non H', rt := Q } (start ["self", "good", "place"] vs) H := by
  obtain ⟨p, b, n, rfl, rfl, hn, k⟩ := h
  refine ⟨_, rfl, _, rfl, ?_⟩
  refine ifF rfl ⟨_, rfl, _, _, rfl, rfl, _, rfl, ?_⟩
  exact ifF (decide_eq_false (by omega)) k
def Part.word : Part → Str
  | .num _ => "num" | .name _ => "name" | .add _ _ => "add" | .less _ _ => "less" | .ite _ _ _ => "if" | .say _ => "say" | .lt _ _ _ => "let" | .fn _ _ _ _ => "fun" | .call _ _ => "call"
def Part.ar : Part → Nat
  | .num _ => 2 | .name _ => 2 | .add _ _ => 3 | .less _ _ => 3 | .ite _ _ _ => 4 | .say _ => 2 | .lt _ _ _ => 4 | .fn _ _ _ _ => 5 | .call _ _ => 3
/-- PARTS, at dP -/
structure PTab (K : PySem.W.Frag) (w : World) (dP : Addr) (es : Array DictEntry) (n : Nat) : Prop where
  kd : KDict K w dP es n
  at_ : ∀ p : Part, ∃ u, PySem.W.nsIn K dP p.word = some (some u) ∧ RelV (.int (p.ar : Int)) u
theorem PTab.dct {K : PySem.W.Frag} {w : World} {dP : Addr} {es : Array DictEntry} {n : Nat} (T : PTab K w dP es n) (p : Part) : KDct K w dP p.word (.int (p.ar : Int)) := by
  obtain ⟨u, h1, h2⟩ := T.at_ p
  exact ⟨es, n, u, T.kd.at_, T.kd.lit, h1, h2⟩
theorem inv_head {K : PySem.W.Frag} {H : Hp} {v : V} : ∀ {p : Part}, Dp K H v p.enc → ∃ t xs, v = .ref t ∧ SqT K H t (.str p.word :: xs) ∧ xs.length + 1 = p.ar
  | .num n, h => by obtain ⟨t, e, hT⟩ := inv_num h; exact ⟨t, _, e, hT, rfl⟩
  | .name n, h => by obtain ⟨t, e, hT⟩ := inv_name h; exact ⟨t, _, e, hT, rfl⟩
  | .add a b, h => by obtain ⟨t, _, _, e, hT, _⟩ := inv_add h; exact ⟨t, _, e, hT, rfl⟩
  | .less a b, h => by obtain ⟨t, _, _, e, hT, _⟩ := inv_less h; exact ⟨t, _, e, hT, rfl⟩
  | .ite c a b, h => by obtain ⟨t, _, _, _, e, hT, _⟩ := inv_ite h; exact ⟨t, _, e, hT, rfl⟩
  | .say a, h => by obtain ⟨t, _, e, hT, _⟩ := inv_say h; exact ⟨t, _, e, hT, rfl⟩
  | .lt x a b, h => by obtain ⟨t, _, _, e, hT, _⟩ := inv_lt h; exact ⟨t, _, e, hT, rfl⟩
  | .fn f ps a b, h => by obtain ⟨t, _, _, _, e, hT, _⟩ := inv_fn h; exact ⟨t, _, e, hT, rfl⟩
  | .call f as, h => by obtain ⟨t, _, _, e, hT, _⟩ := inv_call h; exact ⟨t, _, e, hT, rfl⟩
/-! ### a part's data may be compared -/
section
open PyData
mutual
theorem can_enc : ∀ (p : Part) (ns : List Str) (fs : FE0), p.ok ns fs → (∀ x ∈ ns, wordB x = true) → (∀ f n, fs f = some n → wordB f = true) → PyData.canLay0 p.enc = true
  | .num n, ns, fs, h, hn, hf => by simp only [Part.enc, canLay0, canLayAll0]; decide +kernel
  | .name x, ns, fs, h, hn, hf => by
    have := strOk_word (hn x (by simpa only [Part.ok] using h))
    simp only [Part.enc, canLay0, canLayAll0, this]; decide +kernel
  | .add a b, ns, fs, h, hn, hf => by
    simp only [Part.ok] at h
    simp only [Part.enc, canLay0, canLayAll0, can_enc a ns fs h.1 hn hf, can_enc b ns fs h.2 hn hf]; decide +kernel
  | .less a b, ns, fs, h, hn, hf => by
    simp only [Part.ok] at h
    simp only [Part.enc, canLay0, canLayAll0, can_enc a ns fs h.1 hn hf, can_enc b ns fs h.2 hn hf]; decide +kernel
  | .ite c a b, ns, fs, h, hn, hf => by
    simp only [Part.ok] at h
    simp only [Part.enc, canLay0, canLayAll0, can_enc c ns fs h.1 hn hf, can_enc a ns fs h.2.1 hn hf, can_enc b ns fs h.2.2 hn hf]; decide +kernel
  | .say a, ns, fs, h, hn, hf => by
    simp only [Part.ok] at h
    simp only [Part.enc, canLay0, canLayAll0, can_enc a ns fs h hn hf]; decide +kernel
  | .lt x a b, ns, fs, h, hn, hf => by
    simp only [Part.ok] at h
    have hx : ∀ y ∈ ns ++ [x], wordB y = true := fun y hy => by
      rcases List.mem_append.mp hy with e | e
      · exact hn y e
      · rw [List.mem_singleton.mp e]; exact h.1
    simp only [Part.enc, canLay0, canLayAll0, strOk_word h.1, can_enc a ns fs h.2.1 hn hf, can_enc b _ fs h.2.2 hx hf]; decide +kernel
  | .fn f ps b r, ns, fs, h, hn, hf => by
    simp only [Part.ok] at h
    obtain ⟨h1, _, _, h4, h5, h6⟩ := h
    have hx : ∀ y ∈ ns ++ ps, wordB y = true := fun y hy => by
      rcases List.mem_append.mp hy with e | e
      · exact hn y e
      · exact h4 y e
    have hg : ∀ g n, putN fs f ps.length g = some n → wordB g = true := fun g n e => by
      unfold putN at e
      by_cases q : g = f
      · rw [q]; exact h1
      · rw [if_neg q] at e; exact hf g n e
    simp only [Part.enc, canLay0, canLayAll0, strOk_word h1, canStrs ps (fun x hx => strOk_word (h4 x hx)), can_enc b _ fs h5 hx hf, can_enc r ns _ h6 hn hg]; decide +kernel
  | .call f as, ns, fs, h, hn, hf => by
    simp only [Part.ok] at h
    simp only [Part.enc, canLay0, canLayAll0, strOk_word (hf f _ h.1), can_encs as ns fs h.2 hn hf]; decide +kernel
theorem can_encs : ∀ (as : Parts) (ns : List Str) (fs : FE0), as.ok ns fs → (∀ x ∈ ns, wordB x = true) → (∀ f n, fs f = some n → wordB f = true) → PyData.canLayAll0 as.encs = true
  | .nil, ns, fs, h, hn, hf => by simp only [Parts.encs, canLayAll0]
  | .cons p r, ns, fs, h, hn, hf => by
    simp only [Parts.ok] at h
    simp only [Parts.encs, canLayAll0, can_enc p ns fs h.1 hn hf, can_encs r ns fs h.2 hn hf]; decide +kernel
end
mutual
theorem depth_enc : ∀ p : Part, p.enc.depth ≤ 2 * p.dep
  | .num n => by simp [Part.enc, PyData.depth, PyData.depthAll, Part.dep]
  | .name n => by simp [Part.enc, PyData.depth, PyData.depthAll, Part.dep]
  | .add a b => by have := depth_enc a; have := depth_enc b; simp [Part.enc, PyData.depth, PyData.depthAll, Part.dep]; omega
  | .less a b => by have := depth_enc a; have := depth_enc b; simp [Part.enc, PyData.depth, PyData.depthAll, Part.dep]; omega
  | .ite c a b => by have := depth_enc a; have := depth_enc b; have := depth_enc c; simp [Part.enc, PyData.depth, PyData.depthAll, Part.dep]; omega
  | .say a => by have := depth_enc a; simp [Part.enc, PyData.depth, PyData.depthAll, Part.dep]; omega
  | .lt x a b => by have := depth_enc a; have := depth_enc b; simp [Part.enc, PyData.depth, PyData.depthAll, Part.dep]; omega
  | .fn f ps b r => by have := depth_enc b; have := depth_enc r; have := depStrs ps; have := dep_pos b; simp [Part.enc, PyData.depth, PyData.depthAll, Part.dep]; omega
  | .call f as => by have := depth_encs as; simp [Part.enc, PyData.depth, PyData.depthAll, Part.dep]; omega
theorem depth_encs : ∀ as : Parts, PyData.depthAll as.encs ≤ 2 * as.dep
  | .nil => by simp [Parts.encs, PyData.depthAll]
  | .cons p r => by have := depth_enc p; have := depth_encs r; simp [Parts.encs, PyData.depthAll, Parts.dep]; omega
end
end
theorem shaped_enc {p : Part} {ns : List Str} {fs : FE0} (h : p.ok ns fs) (hn : ∀ x ∈ ns, wordB x = true) (hf : ∀ f n, fs f = some n → wordB f = true) (hd : p.dep ≤ 32) : SeqAt.shaped p.enc = true := by
  unfold SeqAt.shaped
  rw [Bool.and_eq_true, decide_eq_true_eq]
  have := depth_enc p
  exact ⟨can_enc p ns fs h hn hf, by omega⟩
end BN
namespace BN
open PySem L2 PyProof.Rows
/-! ### look -/
abbrev FRel (kvs : List (Key × V)) (fs : FE0) : Prop := ∀ f : Str, valV kvs (Sum.inr f) = (fs f).map fun n => V.int (n : Int)
structure LookOk (n : Nat) (pt : Part) (names : List Str) (fs : FE0) (kvs : List (Key × V)) (pl : Nat) : Prop where
  rel : FRel kvs fs
  ok : pt.ok names fs
  nw : ∀ x ∈ names, wordB x = true
  fw : ∀ f m, fs f = some m → wordB f = true
  dn : pt.dep ≤ n
  d32 : pt.dep ≤ 32
  wid : pt.wid ≤ 1000
  nl : names.length ≤ 12 * pl + 3
  fl : kvs.length ≤ pl
  sz : pl + pt.size ≤ 200
structure LookAt (K : PySem.W.Frag) (H : Hp) (v : V) (an af : Addr) (pt : Part) (names : List Str) (kvs : List (Key × V)) : Prop where
  v : Dp K H v pt.enc
  n : H an = some (.lst (names.map V.str))
  f : H af = some (.dK kvs)
theorem LookAt.fr {K : PySem.W.Frag} {C : CP} {H H' : Hp} {v : V} {an af : Addr} {pt : Part} {names : List Str} {kvs : List (Key × V)} (L : LookAt K H v an af pt names kvs) (f : Fr C H H') (h1 : ∀ o, ¬ C an o) (h2 : ∀ o, ¬ C af o) : LookAt K H' v an af pt names kvs :=
  ⟨Dp.fr f _ _ (tup_enc pt) L.v, f.at L.n (h1 _), f.at L.f (h2 _)⟩
def spLook (K : PySem.W.Frag) (C : Addr) (n : Nat) : Sp := fun vs H Q _ => ∃ (p dx : Addr) (v : V) (an af : Addr) (pt : Part) (names : List Str) (fs : FE0) (kvs : List (Key × V)) (pl : Nat), vs = [.ref p, v, .ref an, .ref af] ∧
  H p = some (.ins C dx (fl1 pl)) ∧ LookAt K H v an af pt names kvs ∧ LookOk n pt names fs kvs pl ∧ ∀ H', Fr (cI p) H H' → H' p = some (.ins C dx (fl1 (pl + pt.size))) → Q .non H'
def flatP : Part → Bool
  | .lt _ _ _ => false | .fn _ _ _ _ => false | _ => true
theorem parts_in : ∀ {as : Parts} {ns : List Str} {fs : FE0}, as.ok ns fs → ∀ q ∈ as.list, q.ok ns fs
  | .nil, _, _, _, q, h => by simp [Parts.list] at h
  | .cons p r, ns, fs, h, q, hq => by
    simp only [Parts.ok] at h
    rcases List.mem_cons.mp (by simpa [Parts.list] using hq : q ∈ p :: r.list) with rfl | e
    · exact h.1
    · exact parts_in h.2 q e
theorem flat_in {p : Part} {ns : List Str} {fs : FE0} (hp : flatP p = true) (h : p.ok ns fs) : ∀ q ∈ p.inner, q.ok ns fs := by
  intro q hq
  cases p <;> simp only [Part.inner, List.mem_cons, List.not_mem_nil, or_false] at hq <;> simp only [Part.ok] at h
  · rcases hq with rfl | rfl
    · exact h.1
    · exact h.2
  · rcases hq with rfl | rfl
    · exact h.1
    · exact h.2
  · rcases hq with rfl | rfl | rfl
    · exact h.1
    · exact h.2.1
    · exact h.2.2
  · subst hq; exact h
  · simp [flatP] at hp
  · simp [flatP] at hp
  · exact parts_in h.2 q hq
theorem sizesL_app : ∀ a b : List Part, sizesL (a ++ b) = sizesL a + sizesL b
  | [], b => by simp [sizesL]
  | p :: r, b => by simp only [List.cons_append, sizesL, sizesL_app r b]; omega
theorem sizesL_more {l : List Part} {i : Nat} {q : Part} (h : l[i]? = some q) : sizesL (l.take (i + 1)) = sizesL (l.take i) + q.size := by
  rw [take_more h, sizesL_app]; simp [sizesL]
theorem sizesL_le (l : List Part) (i : Nat) : sizesL (l.take i) ≤ sizesL l := by
  have h := sizesL_app (l.take i) (l.drop i)
  rw [List.take_append_drop] at h
  omega
theorem flatV_strs (l : List Str) : (l.map V.str).all flatV = true := by
  rw [List.all_map, List.all_eq_true]
  intro x _; rfl
theorem inV_strs {x : Str} {l : List Str} (h : x ∈ l) : inV (.str x) (l.map V.str) = true := by
  unfold inV
  rw [List.any_map, List.any_eq_true]
  exact ⟨x, h, by simp [eqV]⟩
def t_look (K : PySem.W.Frag) (w : World) (dP cChk : Addr) (n : Nat) : TS :=
  (tSeq (tAsg (tFld K (tVar 0) "place") (gName 4))
    (tSeq (sFldAug K (tVar 0) (tC (.int 1)) L2.rAdd "place")
    (tSeq (tAsg (tIf (tTest (tOp (rNeD K) (tVar 1) (tTup tNil))) (tOp (rIxT K) (tVar 1) (tC (.int 0))) (tC (.str ""))) (gName 5))
    (tSeq (tDrop (tMeth cChk "must" spMust [] C8.E0 (tVar 0) (tCons (tAndV (tOp (rInW K dP) (tVar 5) (tC (.ref dP))) (tOp rEq (tCB (rLenSq K) (tCons (tVar 1) tNil)) (tOp (rIxD K w) (tC (.ref dP)) (tVar 5)))) (tCons (tVar 4) tNil))))
    (tIfS (tTest (tOp rEq (tVar 5) (tC (.str "num")))) (tDrop (tMeth cChk "must" spMust [] C8.E0 (tVar 0) (tCons (tChain oLe oLe (tC (.int 0)) (tOp (rIxT K) (tVar 1) (tC (.int 1))) (tC (.int 99))) (tCons (tVar 4) tNil)))) (tIfS (tTest (tOp rEq (tVar 5) (tC (.str "name")))) (tDrop (tMeth cChk "must" spMust [] C8.E0 (tVar 0) (tCons (tOp (rIn K false) (tOp (rIxT K) (tVar 1) (tC (.int 1))) (tVar 2)) (tCons (tVar 4) tNil)))) (tIfS (tTest (tOp rEq (tVar 5) (tC (.str "let")))) (tSeq (tDrop (tMeth cChk "must" spMust [] C8.E0 (tVar 0) (tCons (tCall (spIsWord K) [] C8.E0 (tCons (tOp (rIxT K) (tVar 1) (tC (.int 1))) tNil)) (tCons (tVar 4) tNil))))
    (tSeq (tDrop (tMeth cChk "look" (spLook K cChk n) [] C8.E0 (tVar 0) (tCons (tOp (rIxT K) (tVar 1) (tC (.int 2))) (tCons (tVar 2) (tCons (tVar 3) tNil)))))
    (tDrop (tMeth cChk "look" (spLook K cChk n) [] C8.E0 (tVar 0) (tCons (tOp (rIxT K) (tVar 1) (tC (.int 3))) (tCons (tOp rCat (tVar 2) (tLst (tCons (tOp (rIxT K) (tVar 1) (tC (.int 1))) tNil))) (tCons (tVar 3) tNil))))))) (tIfS (tTest (tOp rEq (tVar 5) (tC (.str "fun")))) (tSeq (tDrop (tMeth cChk "must" spMust [] C8.E0 (tVar 0) (tCons (tAndV (tCall (spIsWord K) [] C8.E0 (tCons (tOp (rIxT K) (tVar 1) (tC (.int 1))) tNil)) (tCall (spAreWords K) [] C8.E0 (tCons (tOp (rIxT K) (tVar 1) (tC (.int 2))) (tCons (tC (.int 12)) tNil)))) (tCons (tVar 4) tNil))))
    (tSeq (tDrop (tMeth cChk "look" (spLook K cChk n) [] C8.E0 (tVar 0) (tCons (tOp (rIxT K) (tVar 1) (tC (.int 3))) (tCons (tOp rCat (tVar 2) (tCB (rListSq K) (tCons (tOp (rIxT K) (tVar 1) (tC (.int 2))) tNil))) (tCons (tVar 3) tNil)))))
    (tSeq (tAsg (tCB rDictD (tCons (tVar 3) tNil)) (gName 6))
    (tSeq (sDPut (tVar 6) (tOp (rIxT K) (tVar 1) (tC (.int 1))) (tCB (rLenSq K) (tCons (tOp (rIxT K) (tVar 1) (tC (.int 2))) tNil)))
    (tDrop (tMeth cChk "look" (spLook K cChk n) [] C8.E0 (tVar 0) (tCons (tOp (rIxT K) (tVar 1) (tC (.int 4))) (tCons (tVar 2) (tCons (tVar 6) tNil))))))))) (tSeq (tIfS (tTest (tOp rEq (tVar 5) (tC (.str "call")))) (tDrop (tMeth cChk "must" spMust [] C8.E0 (tVar 0) (tCons (tOp rEq (tDGet2 (tVar 3) (tOp (rIxT K) (tVar 1) (tC (.int 1))) (tUn oNeg (tC (.int 1)))) (tCB (rLenSq K) (tCons (tOp (rIxT K) (tVar 1) (tC (.int 2))) tNil))) (tCons (tVar 4) tNil)))) tNext)
    (tFor (iList K (tCall (spInner K) [] C8.E0 (tCons (tVar 1) tNil))) (gName 7) (tDrop (tMeth cChk "look" (spLook K cChk n) [] C8.E0 (tVar 0) (tCons (tVar 7) (tCons (tVar 2) (tCons (tVar 3) tNil)))))))))))))))
theorem look_tail {K : PySem.W.Frag} {cChk : Addr} {n : Nat} {T : ChkC K cChk} {pt : Part} {p dx an af : Addr} {v : V} {names : List Str} {fs : FE0} {kvs : List (Key × V)} {pl : Nat} {H1 : Hp} {Q R : VK} {σ : L2.St}
    (hσ : σ = [some (.ref p), some v, some (.ref an), some (.ref af), some (.int pl), some (.str pt.word), none, none]) (hp : H1 p = some (.ins cChk dx (fl1 (pl + 1)))) (L : LookAt K H1 v an af pt names kvs) (O : LookOk (n + 1) pt names fs kvs pl) (hf : flatP pt = true)
    (k : ∀ H', Fr (cI p) H1 H' → H' p = some (.ins cChk dx (fl1 (pl + pt.size))) → Q .non H') :
    (tFor (iList K (tCall (spInner K) [] C8.E0 (tCons (tVar 1) tNil))) (gName 7) (tDrop (tMeth cChk "look" (spLook K cChk n) [] C8.E0 (tVar 0) (tCons (tVar 7) (tCons (tVar 2) (tCons (tVar 3) tNil)))))) { nx := fun _ H' => Q .non H', rt := R } σ H1 := by
  subst hσ
  have npn : ∀ {H : Hp}, LookAt K H v an af pt names kvs → H p = some (.ins cChk dx (fl1 (pl + 1))) → (∀ o, ¬ cI p an o) ∧ ∀ o, ¬ cI p af o := fun {H} L hp => by
    refine ⟨fun o z => ?_, fun o z => ?_⟩
    · have e : an = p := z
      have := L.n; rw [e, hp] at this; cases this
    · have e : af = p := z
      have := L.f; rw [e, hp] at this; cases this
  refine ⟨_, rfl, v, pt, rfl, L.v, fun D ws H2 f1 hD0 e da => ⟨D, rfl, ⟨ws, SqL.of e⟩, ?_⟩⟩
  have hp2 := f1.at hp (fun z => z)
  have L2 := L.fr f1 (fun _ z => z) (fun _ z => z)
  have nn := npn L2 hp2
  have nD : ∀ o, ¬ cI p D o := fun o z => by
    have e' : D = p := z
    rw [e', hp2] at e; cases e
  refine for_list (K := K) (a := D) (xs := ws) (fun i σ H' => ∃ u, σ = [some (.ref p), some v, some (.ref an), some (.ref af), some (.int pl), some (.str pt.word), none, u] ∧ Fr (cI p) H2 H' ∧ H' p = some (.ins cChk dx (fl1 (pl + 1 + sizesL (pt.inner.take i)))))
    ⟨none, rfl, Fr.refl _, by simpa [sizesL] using hp2⟩ (fun i σ H' _ ⟨_, _, f', _⟩ => SqL.of (f'.at e (nD _))) ?_ ?_
  · rintro i x σ H' hi ⟨u, rfl, f', hp'⟩
    obtain ⟨dd, hdd, Dx⟩ := da.getV hi
    obtain ⟨q, hq, rfl⟩ := map_at hdd
    have hm := List.mem_of_getElem? hq
    have L3 := L2.fr f' nn.1 nn.2
    have s1 := sizesL_more hq
    have s2 := sizesL_le pt.inner (i + 1)
    have s3 := size_inner pt
    have h1 := dep_inner pt q hm
    have h2 := wid_inner pt q hm
    have o1 := O.dn; have o2 := O.d32; have o3 := O.wid; have o4 := O.nl; have o5 := O.fl; have o6 := O.sz
    refine ⟨_, rfl, p, dx, _, rfl, hp', fl1_no _ (by decide +kernel), _, rfl, _, rfl, _, rfl, p, dx, x, an, af, q, names, fs, kvs, pl + 1 + sizesL (pt.inner.take i), rfl, hp', ⟨Dp.fr f' _ _ (tup_enc q) Dx, L3.n, L3.f⟩, ⟨O.rel, flat_in hf O.ok q hm, O.nw, O.fw, by omega, by omega, by omega, by omega, by omega, by omega⟩, fun H3 f3 hp3 => ?_⟩
    refine ⟨_, rfl, f'.trans f3, ?_⟩
    rw [s1, ← Nat.add_assoc]; exact hp3
  · rintro σ H' ⟨u, rfl, f', hp'⟩
    have hl : ws.length = pt.inner.length := by rw [da.len, List.length_map]
    rw [hl, List.take_length] at hp'
    refine k _ ((Fr.of0 f1).trans f') ?_
    rw [size_inner, ← Nat.add_assoc]; exact hp'
theorem words_ok {ps : List Str} {m : Int} (hm : (ps.length : Int) ≤ m) (hn : ps.Nodup) (hw : ∀ x ∈ ps, wordB x = true) : wordsB ps m = true := by
  unfold wordsB
  rw [decide_eq_true hm, decide_eq_true hn, Bool.true_and, Bool.true_and, List.all_map, List.all_eq_true]
  exact fun x hx => hw x hx
theorem word_len {x : Str} (h : wordB x = true) : x.length ≤ 4 := by
  unfold wordB at h
  simp only [Bool.and_eq_true, decide_eq_true_eq] at h
  exact h.1.2
theorem FRel.put {kvs : List (Key × V)} {fs : FE0} (h : FRel kvs fs) (f : Str) (m : Nat) : FRel (putK kvs (Sum.inr f) (.int (m : Int))) (putN fs f m) := fun g => by
  rw [valV_put]
  unfold putN
  by_cases e : g = f
  · subst e; simp
  · rw [if_neg (by simpa using e), if_neg e]; exact h g
theorem putK_le (kvs : List (Key × V)) (k : Key) (v : V) : (putK kvs k v).length ≤ kvs.length + 1 := by
  unfold putK
  split
  · rw [List.length_map]; omega
  · rw [List.length_append]; simp
theorem pure_look {K : PySem.W.Frag} {w : World} {dP cChk : Addr} {es : Array DictEntry} {n0 n : Nat} (T : ChkC K cChk) (PT : PTab K w dP es n0) (vs : List V) (H : Hp) (Q : VK) (E : XK) (h : spLook K cChk (n + 1) vs H Q E) :
    t_look K w dP cChk n { nx := fun _ H' => Q .non H', rt := Q } (start ["self", "part", "names", "funs", "place", "word", "known", "one"] vs) H := by
  obtain ⟨p, dx, v, an, af, pt, names, fs, kvs, pl, rfl, hp, L, O, k⟩ := h
  have o1 := O.dn; have o2 := O.d32; have o3 := O.wid; have o4 := O.nl; have o5 := O.fl; have o6 := O.sz
  have sp := size_pos pt
  obtain ⟨t, xs, rfl, hT, hx⟩ := inv_head L.v
  -- place
  refine ⟨_, rfl, p, cChk, dx, _, _, rfl, hp, T.cl, T.nP, fl1_get _, ?_⟩
  refine ⟨_, rfl, p, cChk, dx, _, _, rfl, hp, T.cl, T.nP, fl1_get _, _, _, rfl, rfl, dx, _, hp, (by show 1 < 1000; decide), ?_⟩
  have e1 : putF "place" (.int ((pl : Int) + 1)) (fl1 pl) = fl1 (pl + 1) := fl1_put pl (pl + 1)
  rw [e1]
  have f1 : Fr (cI p) H (upd H p (.ins cChk dx (fl1 (pl + 1)))) := Fr.setI hp trivial
  have hp1 : (upd H p (.ins cChk dx (fl1 (pl + 1)))) p = some (.ins cChk dx (fl1 (pl + 1))) := upd_same
  have nan : ∀ o, ¬ cI p an o := fun o z => by
    have e : an = p := z
    have := L.n; rw [e, hp] at this; cases this
  have naf : ∀ o, ¬ cI p af o := fun o z => by
    have e : af = p := z
    have := L.f; rw [e, hp] at this; cases this
  have L1 := L.fr f1 nan naf
  generalize (upd H p (.ins cChk dx (fl1 (pl + 1)))) = H1 at f1 hp1 L1 ⊢
  -- word
  refine ⟨_, rfl, one_sz (Nat.zero_le _), fun q hq => ⟨pt.enc, .tuple [], Dp.fr (Fr.new (C := c0) hq) _ _ (tup_enc pt) L1.v, .tup (SqT.of upd_same) .nil, shaped_enc O.ok O.nw O.fw (by omega), by decide +kernel, ?_⟩⟩
  have ne : (!PyData.eqv pt.enc (.tuple [])) = true := by cases pt <;> simp [Part.enc, PyData.eqv, PyData.eqvAll]
  rw [ne]
  have f2 : Fr c0 H1 (upd H1 q (.tup [])) := Fr.new hq
  have hp2 := f2.at hp1 (fun z => z)
  have L2 := L1.fr f2 (fun _ z => z) (fun _ z => z)
  have hT2 := f2.sqT (f1.sqT hT)
  have f12 := f1.trans (Fr.of0 f2)
  generalize (upd H1 q (.tup [])) = H2 at f2 hp2 L2 hT2 f12 ⊢
  refine ⟨_, rfl, ifT rfl ⟨_, rfl, t, _, _, _, rfl, rfl, hT2, atI_nat (j := 0) rfl, ?_⟩⟩
  -- the first must
  obtain ⟨u, hu, ru⟩ := PT.at_ pt
  refine ⟨_, rfl, p, dx, _, rfl, hp2, fl1_no _ (by decide +kernel), _, rfl, _, _, rfl, rfl, hu, _, rfl, ifT rfl ⟨_, rfl, t, _, rfl, .inr hT2, _, rfl, dP, _, _, rfl, rfl, PT.dct pt, rfl, _, rfl, ?_⟩⟩
  refine ⟨.ref p, _, (pl : Int), rfl, ?_, by omega, ?_⟩
  · rw [List.length_cons, hx]; exact decide_eq_true rfl
  -- the law's cases
  have fin : ∀ H', Fr (cI p) H2 H' → H' p = some (.ins cChk dx (fl1 (pl + pt.size))) → Q .non H' := fun H' f' hp' => k H' (f12.trans f') hp'
  have tail := fun (hf : flatP pt = true) (R : VK) => look_tail (T := T) (σ := [some (.ref p), some (.ref t), some (.ref an), some (.ref af), some (.int pl), some (.str pt.word), none, none]) (R := R) rfl hp2 L2 O hf fin
  cases pt with
  | num m =>
    obtain ⟨t', e, hT3⟩ := inv_num L2.v
    cases e
    have hm : 0 ≤ m ∧ m ≤ 99 := by simpa only [Part.ok] using O.ok
    refine ⟨_, rfl, rfl, _, rfl, ifT (by kernel_rfl) ?_⟩
    refine ⟨_, rfl, p, dx, _, rfl, hp2, fl1_no _ (by decide +kernel), _, rfl, t, _, _, _, rfl, rfl, hT3, rfl, _, _, rfl, rfl, _, rfl, ifT (decide_eq_true hm.1) ⟨_, _, rfl, rfl, _, rfl, ?_⟩⟩
    exact ⟨.ref p, _, (pl : Int), rfl, decide_eq_true hm.2, by omega, fin _ (Fr.refl _) hp2⟩
  | name x =>
    obtain ⟨t', e, hT3⟩ := inv_name L2.v
    cases e
    have hm : x ∈ names := by simpa only [Part.ok] using O.ok
    refine ⟨_, rfl, rfl, _, rfl, ifF (by kernel_rfl) ?_⟩
    refine ⟨_, rfl, rfl, _, rfl, ifT (by kernel_rfl) ?_⟩
    refine ⟨_, rfl, p, dx, _, rfl, hp2, fl1_no _ (by decide +kernel), _, rfl, t, _, _, _, rfl, rfl, hT3, rfl, _, rfl, an, _, rfl, .inl (SqL.of L2.n), rfl, flatV_strs _, _, rfl, ?_⟩
    exact ⟨.ref p, _, (pl : Int), rfl, inV_strs hm, by omega, fin _ (Fr.refl _) hp2⟩
  | lt x a b =>
    obtain ⟨t', va, vb, e, hT3, da, db⟩ := inv_lt L2.v
    cases e
    have ho := O.ok
    simp only [Part.ok] at ho
    simp only [Part.dep] at o1 o2
    simp only [Part.wid] at o3
    simp only [Part.size] at o6 fin
    refine ⟨_, rfl, rfl, _, rfl, ifF (by kernel_rfl) ?_⟩
    refine ⟨_, rfl, rfl, _, rfl, ifF (by kernel_rfl) ?_⟩
    refine ⟨_, rfl, rfl, _, rfl, ifT (by kernel_rfl) ?_⟩
    have wl := word_len ho.1
    refine ⟨_, rfl, p, dx, _, rfl, hp2, fl1_no _ (by decide +kernel), _, rfl, t, _, _, _, rfl, rfl, hT3, rfl, x, rfl, by omega, strOk_word ho.1, fun H3 f3 => ⟨_, rfl, .ref p, _, (pl : Int), rfl, ho.1, by omega, ?_⟩⟩
    have hp3 := f3.at hp2 (fun z => z)
    have L3 := L2.fr f3 (fun _ z => z) (fun _ z => z)
    refine ⟨_, rfl, p, dx, _, rfl, hp3, fl1_no _ (by decide +kernel), _, rfl, t, _, _, _, rfl, rfl, f3.sqT hT3, rfl, _, rfl, _, rfl, p, dx, va, an, af, a, names, fs, kvs, pl + 1, rfl, hp3, ⟨Dp.fr f3 _ _ (tup_enc a) da, L3.n, L3.f⟩, ⟨O.rel, ho.2.1, O.nw, O.fw, by omega, by omega, by omega, by omega, by omega, by omega⟩, fun H4 f4 hp4 => ?_⟩
    have L4 := L3.fr f4 nan naf
    have f24 := (Fr.of0 (C := cI p) f3).trans f4
    refine ⟨_, rfl, p, dx, _, rfl, hp4, fl1_no _ (by decide +kernel), _, rfl, t, _, _, _, rfl, rfl, f24.sqT hT3, rfl, _, rfl, _, rfl, t, _, _, _, rfl, rfl, f24.sqT hT3, rfl, one_sz (by show 1 ≤ 1000; decide), fun l hl => ?_⟩
    have f5 : Fr c0 H4 (upd H4 l (.lst [.str x])) := Fr.new hl
    have L5 := L4.fr f5 (fun _ z => z) (fun _ z => z)
    refine ⟨an, l, _, _, rfl, rfl, L5.n, upd_same, Nat.le_of_lt (Nat.lt_of_le_of_lt (m := 10000) (by rw [List.length_map]; show names.length + 1 ≤ 10000; omega) (by rw [sizeLine_eq]; decide)), fun m hm => ?_⟩
    have f6 : Fr c0 (upd H4 l (.lst [.str x])) (upd (upd H4 l (.lst [.str x])) m (.lst (names.map V.str ++ [.str x]))) := Fr.new hm
    have f56 := f5.trans f6
    have L6 := L5.fr f6 (fun _ z => z) (fun _ z => z)
    have hn' : (upd (upd H4 l (.lst [.str x])) m (.lst (names.map V.str ++ [.str x]))) m = some (.lst ((names ++ [x]).map V.str)) := by rw [upd_same, List.map_append]; rfl
    have sa := size_pos a
    refine ⟨_, rfl, p, dx, vb, m, af, b, names ++ [x], fs, kvs, pl + 1 + a.size, rfl, f56.at hp4 (fun z => z), ⟨Dp.fr (f24.trans (Fr.of0 f56)) _ _ (tup_enc b) db, hn', L6.f⟩, ⟨O.rel, ho.2.2, fun y hy => ?_, O.fw, by omega, by omega, by omega, ?_, by omega, by omega⟩, fun H7 f7 hp7 => ?_⟩
    · rcases List.mem_append.mp hy with e | e
      · exact O.nw y e
      · rw [List.mem_singleton.mp e]; exact ho.1
    · rw [List.length_append]; show names.length + 1 ≤ _; omega
    · refine fin _ ((f24.trans (Fr.of0 f56)).trans f7) ?_
      have e : pl + (1 + (a.size + b.size)) = pl + 1 + a.size + b.size := by omega
      rw [e]; exact hp7
  | fn f ps a b =>
    obtain ⟨t', tp, va, vb, e, hT3, hTp, da, db⟩ := inv_fn L2.v
    cases e
    have ho := O.ok
    simp only [Part.ok] at ho
    obtain ⟨h1, h2, h3, h4, h5, h6⟩ := ho
    simp only [Part.dep] at o1 o2
    simp only [Part.wid] at o3
    simp only [Part.size] at o6 fin
    refine ⟨_, rfl, rfl, _, rfl, ifF (by kernel_rfl) ?_⟩
    refine ⟨_, rfl, rfl, _, rfl, ifF (by kernel_rfl) ?_⟩
    refine ⟨_, rfl, rfl, _, rfl, ifF (by kernel_rfl) ?_⟩
    refine ⟨_, rfl, rfl, _, rfl, ifT (by kernel_rfl) ?_⟩
    have wl := word_len h1
    refine ⟨_, rfl, p, dx, _, rfl, hp2, fl1_no _ (by decide +kernel), _, rfl, t, _, _, _, rfl, rfl, hT3, rfl, f, rfl, by omega, strOk_word h1, fun H3 f3 => ⟨_, rfl, ifT h1 ?_⟩⟩
    have hp3 := f3.at hp2 (fun z => z)
    have L3 := L2.fr f3 (fun _ z => z) (fun _ z => z)
    refine ⟨_, rfl, t, _, _, _, rfl, rfl, f3.sqT hT3, rfl, tp, ps, 12, rfl, f3.sqT hTp, by omega, fun x hx => ⟨by have := word_len (h4 x hx); omega, strOk_word (h4 x hx)⟩, fun H4 f4 => ⟨_, rfl, .ref p, _, (pl : Int), rfl, words_ok (by omega) h3 h4, by omega, ?_⟩⟩
    have hp4 := f4.at hp3 (fun z => z)
    have L4 := L3.fr f4 (fun _ z => z) (fun _ z => z)
    have f24 := f3.trans f4
    -- the body
    refine ⟨_, rfl, p, dx, _, rfl, hp4, fl1_no _ (by decide +kernel), _, rfl, t, _, _, _, rfl, rfl, f24.sqT hT3, rfl, _, rfl, _, rfl, t, _, _, _, rfl, rfl, f24.sqT hT3, rfl, tp, _, rfl, .inr (f24.sqT hTp), fun l hl => ?_⟩
    have f5 : Fr c0 H4 (upd H4 l (.lst (ps.map V.str))) := Fr.new hl
    have L5 := L4.fr f5 (fun _ z => z) (fun _ z => z)
    refine ⟨an, l, _, _, rfl, rfl, L5.n, upd_same, Nat.le_of_lt (Nat.lt_of_le_of_lt (m := 10000) (by rw [List.length_map, List.length_map]; omega) (by rw [sizeLine_eq]; decide)), fun m hm => ?_⟩
    have f6 : Fr c0 (upd H4 l (.lst (ps.map V.str))) (upd (upd H4 l (.lst (ps.map V.str))) m (.lst (names.map V.str ++ ps.map V.str))) := Fr.new hm
    have f56 := f5.trans f6
    have L6 := L5.fr f6 (fun _ z => z) (fun _ z => z)
    have hn' : (upd (upd H4 l (.lst (ps.map V.str))) m (.lst (names.map V.str ++ ps.map V.str))) m = some (.lst ((names ++ ps).map V.str)) := by rw [upd_same, List.map_append]
    have f26 := f24.trans f56
    refine ⟨_, rfl, p, dx, va, m, af, a, names ++ ps, fs, kvs, pl + 1, rfl, f56.at hp4 (fun z => z), ⟨Dp.fr f26 _ _ (tup_enc a) da, hn', L6.f⟩, ⟨O.rel, h5, fun y hy => ?_, O.fw, by omega, by omega, by omega, ?_, by omega, by omega⟩, fun H7 f7 hp7 => ?_⟩
    · rcases List.mem_append.mp hy with e | e
      · exact O.nw y e
      · exact h4 y e
    · rw [List.length_append]; omega
    have f27 := (Fr.of0 (C := cI p) f26).trans f7
    have L7 := L2.fr f27 nan naf
    -- known
    refine ⟨_, rfl, af, kvs, rfl, .inl L7.f, fun kn hk => ?_⟩
    have f8 : Fr c0 H7 (upd H7 kn (.dK kvs)) := Fr.new hk
    have L8 := L7.fr f8 (fun _ z => z) (fun _ z => z)
    have hT8 := (f27.trans (Fr.of0 f8)).sqT hT3
    refine ⟨_, rfl, t, _, _, _, rfl, rfl, hT8, rfl, tp, _, rfl, .inr ((f27.trans (Fr.of0 f8)).sqT hTp), _, rfl, _, rfl, t, _, _, _, rfl, rfl, hT8, rfl, kn, _, rfl, DPut.k (k := Sum.inr f) upd_same (small1000 (by omega)), ?_⟩
    rw [List.length_map]
    have f9 : Fr c0 H7 (upd (upd H7 kn (.dK kvs)) kn (.dK (putK kvs (Sum.inr f) (.int (ps.length : Int))))) := f8.fresh hk
    have f29 := f27.trans (Fr.of0 f9)
    have L9 := L7.fr f9 (fun _ z => z) (fun _ z => z)
    have hp9 := f9.at hp7 (fun z => z)
    have sa := size_pos a
    have pk := putK_le kvs (Sum.inr f) (.int (ps.length : Int))
    refine ⟨_, rfl, p, dx, _, rfl, hp9, fl1_no _ (by decide +kernel), _, rfl, t, _, _, _, rfl, rfl, f29.sqT hT3, rfl, _, rfl, _, rfl, p, dx, vb, an, kn, b, names, _, _, pl + 1 + a.size, rfl, hp9, ⟨Dp.fr f29 _ _ (tup_enc b) db, L9.n, upd_same⟩, ⟨O.rel.put f ps.length, h6, O.nw, fun g m e => ?_, by omega, by omega, by omega, by omega, by omega, by omega⟩, fun H10 f10 hp10 => ?_⟩
    · unfold putN at e
      by_cases q : g = f
      · rw [q]; exact h1
      · rw [if_neg q] at e; exact O.fw g m e
    · refine fin _ (f29.trans f10) ?_
      have e : pl + (1 + (a.size + b.size)) = pl + 1 + a.size + b.size := by omega
      rw [e]; exact hp10
  | call f as =>
    obtain ⟨t', ta, ws, e, hT3, hA, da⟩ := inv_call L2.v
    cases e
    have ho := O.ok
    simp only [Part.ok] at ho
    refine ⟨_, rfl, rfl, _, rfl, ifF (by kernel_rfl) ?_⟩
    refine ⟨_, rfl, rfl, _, rfl, ifF (by kernel_rfl) ?_⟩
    refine ⟨_, rfl, rfl, _, rfl, ifF (by kernel_rfl) ?_⟩
    refine ⟨_, rfl, rfl, _, rfl, ifF (by kernel_rfl) ?_⟩
    refine ⟨_, rfl, rfl, _, rfl, ifT (by kernel_rfl) ?_⟩
    refine ⟨_, rfl, p, dx, _, rfl, hp2, fl1_no _ (by decide +kernel), _, rfl, af, rfl, .inl ⟨kvs, .inl L2.f⟩, _, rfl, t, _, _, _, rfl, rfl, hT3, rfl, _, rfl, _, DGet.k (k := Sum.inr f) L2.f, _, rfl, t, _, _, _, rfl, rfl, hT3, rfl, ta, _, rfl, .inr hA, ?_⟩
    have hl : ws.length = as.len := by rw [da.len, List.length_map, Parts.list_len]
    rw [O.rel f, ho.1, hl]
    refine ⟨rfl, _, rfl, .ref p, _, (pl : Int), rfl, decide_eq_true rfl, by omega, ?_⟩
    exact tail rfl _
  | add a b =>
    refine ⟨_, rfl, rfl, _, rfl, ifF (by kernel_rfl) ?_⟩
    refine ⟨_, rfl, rfl, _, rfl, ifF (by kernel_rfl) ?_⟩
    refine ⟨_, rfl, rfl, _, rfl, ifF (by kernel_rfl) ?_⟩
    refine ⟨_, rfl, rfl, _, rfl, ifF (by kernel_rfl) ?_⟩
    refine ⟨_, rfl, rfl, _, rfl, ifF (by kernel_rfl) ?_⟩
    exact tail rfl _
  | less a b =>
    refine ⟨_, rfl, rfl, _, rfl, ifF (by kernel_rfl) ?_⟩
    refine ⟨_, rfl, rfl, _, rfl, ifF (by kernel_rfl) ?_⟩
    refine ⟨_, rfl, rfl, _, rfl, ifF (by kernel_rfl) ?_⟩
    refine ⟨_, rfl, rfl, _, rfl, ifF (by kernel_rfl) ?_⟩
    refine ⟨_, rfl, rfl, _, rfl, ifF (by kernel_rfl) ?_⟩
    exact tail rfl _
  | ite c a b =>
    refine ⟨_, rfl, rfl, _, rfl, ifF (by kernel_rfl) ?_⟩
    refine ⟨_, rfl, rfl, _, rfl, ifF (by kernel_rfl) ?_⟩
    refine ⟨_, rfl, rfl, _, rfl, ifF (by kernel_rfl) ?_⟩
    refine ⟨_, rfl, rfl, _, rfl, ifF (by kernel_rfl) ?_⟩
    refine ⟨_, rfl, rfl, _, rfl, ifF (by kernel_rfl) ?_⟩
    exact tail rfl _
  | say a =>
    refine ⟨_, rfl, rfl, _, rfl, ifF (by kernel_rfl) ?_⟩
    refine ⟨_, rfl, rfl, _, rfl, ifF (by kernel_rfl) ?_⟩
    refine ⟨_, rfl, rfl, _, rfl, ifF (by kernel_rfl) ?_⟩
    refine ⟨_, rfl, rfl, _, rfl, ifF (by kernel_rfl) ?_⟩
    refine ⟨_, rfl, rfl, _, rfl, ifF (by kernel_rfl) ?_⟩
    exact tail rfl _
end BN
namespace BN
open PySem L2 PyProof.Rows
/-! ### check_program, check_run: what is good passes -/
def spCheckP (K : PySem.W.Frag) : Sp := fun vs H Q _ => ∃ (v : V) (ins : List Str) (pt : Part), vs = [v] ∧ Dp K H v (encP ins pt) ∧ ProgOk ins pt ∧ ∀ H', Fr c0 H H' → Q .non H'
theorem inv_P {K : PySem.W.Frag} {H : Hp} {v : V} {ins : List Str} {p : Part} (h : Dp K H v (encP ins p)) : ∃ t ti vp, v = .ref t ∧ SqT K H t [.ref ti, vp] ∧ SqT K H ti (ins.map V.str) ∧ Dp K H vp p.enc := by
  obtain ⟨t, xs, rfl, hT, ha⟩ := h.tup_inv
  obtain ⟨a, b, rfl, h1, h2⟩ := all2 ha
  obtain ⟨ti, ys, rfl, hT2, ha2⟩ := h1.tup_inv
  rw [ha2.strs_inv] at hT2
  exact ⟨t, ti, b, rfl, hT, hT2, h2⟩
def t_checkP (K : PySem.W.Frag) (cChk : Addr) : TS :=
  (tSeq (tAsg (tVar 0) (gTup K 2 (gCons (gName 1) (gCons (gName 2) gNil))))
    (tSeq (tAsg (tMake cChk (spChkInit cChk) [] C8.E0 tNil) (gName 3))
    (tSeq (tDrop (tMeth cChk "must" spMust [] C8.E0 (tVar 3) (tCons (tCall (spAreWords K) [] C8.E0 (tCons (tVar 1) (tCons (tC (.int 3)) tNil))) (tCons (tC (.int 0)) tNil))))
    (tDrop (tMeth cChk "look" (spLook K cChk 20) [] C8.E0 (tVar 3) (tCons (tVar 2) (tCons (tCB (rListSq K) (tCons (tVar 1) tNil)) (tCons tDNewK tNil))))))))
theorem pure_checkP {K : PySem.W.Frag} {cChk : Addr} {es : Array DictEntry} {n0 : Nat} (vs : List V) (H : Hp) (Q : VK) (E : XK) (h : spCheckP K vs H Q E) :
    t_checkP K cChk { nx := fun _ H' => Q .non H', rt := Q } (start ["program", "inputs", "part", "check"] vs) H := by
  obtain ⟨v, ins, pt, rfl, hd, O, k⟩ := h
  obtain ⟨t, ti, vp, rfl, hT, hI, dp⟩ := inv_P hd
  refine ⟨_, rfl, t, _, rfl, hT, rfl, _, _, rfl, _, _, rfl, rfl, ?_⟩
  intro p dx np ndx ned
  have f1 : Fr c0 H (upd (upd H dx (.own p)) p (.ins cChk dx [])) := by
    refine (Fr.new ndx).trans (Fr.new ?_)
    rw [upd_ne ned.symm]; exact np
  refine ⟨p, dx, rfl, upd_same, rfl, ?_⟩
  have f2 : Fr c0 H (upd (upd (upd H dx (.own p)) p (.ins cChk dx [])) p (.ins cChk dx (fl1 0))) := f1.fresh np
  have hp2 : (upd (upd (upd H dx (.own p)) p (.ins cChk dx [])) p (.ins cChk dx (fl1 0))) p = some (.ins cChk dx (fl1 0)) := upd_same
  generalize (upd (upd (upd H dx (.own p)) p (.ins cChk dx [])) p (.ins cChk dx (fl1 0))) = H2 at f2 hp2 ⊢
  have hl := O.il
  refine ⟨_, rfl, p, dx, _, rfl, hp2, fl1_no _ (by decide +kernel), _, rfl, ti, ins, 3, rfl, f2.sqT hI, by omega, fun x hx => ⟨by have := word_len (O.iw x hx); omega, strOk_word (O.iw x hx)⟩, fun H3 f3 => ⟨.ref p, _, 0, rfl, words_ok (by omega) O.nd O.iw, by omega, ?_⟩⟩
  have f23 := f2.trans f3
  have hp3 := f3.at hp2 (fun z => z)
  refine ⟨_, rfl, p, dx, _, rfl, hp3, fl1_no _ (by decide +kernel), _, rfl, _, rfl, ti, _, rfl, .inr (f23.sqT hI), fun l hl' => ?_⟩
  have f4 : Fr c0 H3 (upd H3 l (.lst (ins.map V.str))) := Fr.new hl'
  refine fun d hd' => ?_
  have f5 : Fr c0 (upd H3 l (.lst (ins.map V.str))) (upd (upd H3 l (.lst (ins.map V.str))) d (.dK [])) := Fr.new hd'
  have f45 := f4.trans f5
  have f25 := f23.trans f45
  have od := O.dep
  have ow := O.wid
  have os := O.sz
  refine ⟨p, dx, vp, l, d, pt, ins, (fun _ => none), [], 0, rfl, f45.at hp3 (fun z => z), ⟨Dp.fr f25 _ _ (tup_enc pt) dp, f5.at upd_same (fun z => z), upd_same⟩, ⟨fun f => rfl, O.ok, O.iw, fun f m e => by simp at e, by omega, by omega, by omega, by omega, Nat.le_refl _, by omega⟩, fun H6 f6 hp6 => ?_⟩
  exact k _ (f25.hide0 np f6)
def spCheckR (K : PySem.W.Frag) : Sp := fun vs H Q _ => ∃ (v : V) (tn : Addr) (me : Str) (ins : List Str) (pt : Part) (ns : List Int), vs = [v, .ref tn, .str me] ∧ Dp K H v (encP ins pt) ∧ ProgOk ins pt ∧ SqT K H tn (ns.map V.int) ∧ ns.length = ins.length ∧
  (∀ n ∈ ns, 0 ≤ n ∧ n ≤ 99) ∧ (me = "near" ∨ me = "called") ∧ ∀ H', Fr c0 H H' → Q .non H'
def t_checkR (K : PySem.W.Frag) : TS :=
  (tSeq (tDrop (tCall (spCheckP K) [] C8.E0 (tCons (tVar 0) tNil)))
    (tSeq (tIfS (tOr (tTest (tOp rNe (tCB (rLenSq K) (tCons (tVar 1) tNil)) (tCB (rLenSq K) (tCons (tOp (rIxT K) (tVar 0) (tC (.int 0))) tNil)))) (tNot (tB (tCB (rAll K) (tCons (tLc (iTup K (tVar 1)) (gName 3) tYes (tChain oLe oLe (tC (.int 0)) (tVar 3) (tC (.int 99))) [3]) tNil))))) tNever tNext)
    (tIfS (tTest (tOp (rIn K true) (tVar 2) (tTup (tCons (tC (.str "near")) (tCons (tC (.str "called")) tNil))))) tNever tNext)))
theorem pure_checkR {K : PySem.W.Frag} (vs : List V) (H : Hp) (Q : VK) (E : XK) (h : spCheckR K vs H Q E) : t_checkR K { nx := fun _ H' => Q .non H', rt := Q } (start ["program", "numbers", "meaning", "number"] vs) H := by
  obtain ⟨v, tn, me, ins, pt, ns, rfl, hd, O, hN, hl, hr, hm, k⟩ := h
  obtain ⟨t, ti, vp, rfl, hT, hI, dp⟩ := inv_P hd
  refine ⟨_, rfl, _, ins, pt, rfl, hd, O, fun H1 f1 => ?_⟩
  have il := O.il
  refine ⟨_, rfl, tn, _, rfl, .inr (f1.sqT hN), _, rfl, t, _, _, _, rfl, rfl, f1.sqT hT, rfl, ti, _, rfl, .inr (f1.sqT hI), rfl, _, rfl, ?_⟩
  refine ifF (by rw [List.length_map, List.length_map, hl]; simp) ?_
  refine ⟨_, rfl, tn, rfl, ⟨_, f1.sqT hN⟩, ?_⟩
  refine lcG_tup (K := K) (a := tn) (xs := ns.map V.int) (C := c0) (I := fun _ => True) (Good := fun i d => d = .bool true) (f1.sqT hN) (fun _ _ _ _ _ => trivial) (fun _ _ _ z => z) trivial (by rw [List.length_map]; omega) (fun i v hi H' f' _ Q' hQ => ?_) fun D2 vs ds H2 hD2 e2 da2 dl dg f2 _ => ?_
  · obtain ⟨q, hq, rfl⟩ := map_at hi
    have h99 := hr q (List.mem_of_getElem? hq)
    refine ⟨_, rfl, _, _, rfl, rfl, _, rfl, ifT (decide_eq_true h99.1) ⟨_, _, rfl, rfl, ?_⟩⟩
    show Q' (.bl (decide (q ≤ 99))) H'
    rw [decide_eq_true h99.2]
    exact hQ (.bool true) _ _ rfl rfl (.bl _) (Fr.refl _) trivial
  · have hds : ds = (ns.map fun _ => true).map PyData.bool := by
      rw [List.map_map]
      refine eq_map_of_at (by rw [dl, List.length_map]) fun k d hk => ?_
      have h1 := at_lt hk
      rw [dl, List.length_map] at h1
      obtain ⟨q, hq⟩ := get_lt h1
      exact ⟨q, hq, (dg k d hk).1⟩
    rw [hds] at da2
    refine ⟨D2, _, rfl, SqL.of (by rw [← bools_inv da2]; exact e2), _, rfl, ?_⟩
    have : (ns.map fun _ => true).all id = true := by rw [List.all_map, List.all_eq_true]; intro _ _; rfl
    rw [this]
    refine ifF rfl ?_
    refine ⟨_, rfl, one_sz (by show 2 ≤ 1000; decide), fun q hq => ⟨q, _, rfl, .inr (SqT.of upd_same), rfl, rfl, _, rfl, ?_⟩⟩
    have : (!inV (.str me) [.str "near", .str "called"]) = false := by rcases hm with rfl | rfl <;> decide +kernel
    exact ifF this (k _ ((f1.trans f2).trans (Fr.new hq)))
end BN
namespace BN
open PySem L2
/-! ### what a program means: piles of rooms -/
abbrev Room := List (Str × Int)
abbrev Row := Str × Nat × Int
structure Out where
  v : Int
  rows : List Row
  said : List Int
def Out.bnd (a : Out) (f : Int → Out) : Out := ⟨(f a.v).v, a.rows ++ (f a.v).rows, a.said ++ (f a.v).said⟩
def Out.len (o : Out) : Nat := o.rows.length + o.said.length
def hasR (P : List Room) (x : Str) : Prop := ∃ r ∈ P, (r.lookup x).isSome = true
/-- from the uppermost room on: how many rooms are passed, the number -/
def rdR : List Room → Str → Nat × Int
  | [], _ => (0, 0)
  | r :: t, x => match r.lookup x with
    | some n => (0, n)
    | none => ((rdR t x).1 + 1, (rdR t x).2)
def rd (P : List Room) (x : Str) : Nat × Int := rdR P.reverse x
abbrev SEnv := Str → Option (List Int → List Room → Out)
mutual
def den (near : Bool) : Part → SEnv → List Room → Out
  | .num n, _, _ => ⟨n, [], []⟩
  | .name x, _, P => ⟨(rd P x).2, [(x, (rd P x).1, (rd P x).2)], []⟩
  | .add a b, e, P => (den near a e P).bnd fun i => (den near b e P).bnd fun j => ⟨(i + j) % 100, [], []⟩
  | .less a b, e, P => (den near a e P).bnd fun i => (den near b e P).bnd fun j => ⟨if i < j then 1 else 0, [], []⟩
  | .ite c a b, e, P => (den near c e P).bnd fun i => if i = 0 then den near b e P else den near a e P
  | .say a, e, P => (den near a e P).bnd fun i => ⟨i, [], [i]⟩
  | .lt x a b, e, P => (den near a e P).bnd fun i => den near b e (P ++ [[(x, i)]])
  | .fn f ps b r, e, P => den near r (putN e f fun vs dyn => den near b e ((if near = true then P else dyn) ++ [ps.zip vs])) P
  | .call f as, e, P => match e f with
    | some g => ⟨(g ((dens near as e P).map (·.v)) P).v, (dens near as e P).flatMap (·.rows) ++ (g ((dens near as e P).map (·.v)) P).rows, (dens near as e P).flatMap (·.said) ++ (g ((dens near as e P).map (·.v)) P).said⟩
    | none => ⟨0, (dens near as e P).flatMap (·.rows), (dens near as e P).flatMap (·.said)⟩
def dens (near : Bool) : Parts → SEnv → List Room → List Out
  | .nil, _, _ => []
  | .cons p r, e, P => den near p e P :: dens near r e P
end
theorem dens_list (near : Bool) (e : SEnv) (P : List Room) : ∀ as : Parts, dens near as e P = as.list.map fun p => den near p e P
  | .nil => by simp [dens, Parts.list]
  | .cons p r => by simp [dens, Parts.list, dens_list near e P r]
/-- a function, where it stands -/
structure Fn where
  f : Str
  ps : List Str
  b : Part
  home : List Room
  ns : List Str
def sem (near : Bool) : List Fn → SEnv
  | [] => fun _ => none
  | e :: t => putN (sem near t) e.f fun vs dyn => den near e.b (sem near t) ((if near = true then e.home else dyn) ++ [e.ps.zip vs])
def arF : List Fn → FE0
  | [] => fun _ => none
  | e :: t => putN (arF t) e.f e.ps.length
/-! ### how deep, how much -/
def putD (d : Str → Nat) (f : Str) (n : Nat) : Str → Nat := fun g => if g = f then n else d g
mutual
def Part.dpt : Part → (Str → Nat) → Nat
  | .num _, _ => 1
  | .name _, _ => 1
  | .add a b, d => 1 + max (a.dpt d) (b.dpt d)
  | .less a b, d => 1 + max (a.dpt d) (b.dpt d)
  | .ite c a b, d => 1 + max (c.dpt d) (max (a.dpt d) (b.dpt d))
  | .say a, d => 1 + a.dpt d
  | .lt _ a b, d => 1 + max (a.dpt d) (b.dpt d)
  | .fn f _ b r, d => 1 + max (b.dpt d) (r.dpt (putD d f (b.dpt d)))
  | .call f as, d => 2 + max (as.dpt d) (d f)
def Parts.dpt : Parts → (Str → Nat) → Nat
  | .nil, _ => 0
  | .cons p r, d => max (p.dpt d) (r.dpt d)
end
mutual
def Part.cst : Part → (Str → Nat) → Nat
  | .num _, _ => 0
  | .name _, _ => 1
  | .add a b, d => a.cst d + b.cst d
  | .less a b, d => a.cst d + b.cst d
  | .ite c a b, d => c.cst d + max (a.cst d) (b.cst d)
  | .say a, d => a.cst d + 1
  | .lt _ a b, d => a.cst d + b.cst d
  | .fn f _ b r, d => r.cst (putD d f (b.cst d))
  | .call f as, d => as.cst d + d f
def Parts.cst : Parts → (Str → Nat) → Nat
  | .nil, _ => 0
  | .cons p r, d => p.cst d + r.cst d
end
theorem dpt_pos (p : Part) (d : Str → Nat) : 1 ≤ p.dpt d := by cases p <;> simp [Part.dpt] <;> omega
theorem dpt_list {d : Str → Nat} : ∀ {as : Parts} {q : Part}, q ∈ as.list → q.dpt d ≤ as.dpt d
  | .nil, q, h => by simp [Parts.list] at h
  | .cons p r, q, h => by
    have e : (Parts.cons p r).dpt d = max (p.dpt d) (r.dpt d) := by simp [Parts.dpt]
    rcases List.mem_cons.mp (by simpa [Parts.list] using h : q ∈ p :: r.list) with rfl | h
    · omega
    · have := dpt_list (d := d) h; omega
def dlt : List Fn → Str → Nat
  | [] => fun _ => 0
  | e :: t => putD (dlt t) e.f (e.b.dpt (dlt t))
def cnt : List Fn → Str → Nat
  | [] => fun _ => 0
  | e :: t => putD (cnt t) e.f (e.b.cst (cnt t))
theorem Out.len_bnd (a : Out) (f : Int → Out) : (a.bnd f).len = a.len + (f a.v).len := by
  simp only [Out.bnd, Out.len, List.length_append]; omega
def Bnd (e : SEnv) (d : Str → Nat) : Prop := ∀ f g, e f = some g → ∀ vs P, (g vs P).len ≤ d f
theorem Bnd.put {e : SEnv} {d : Str → Nat} (h : Bnd e d) {f : Str} {g : List Int → List Room → Out} {n : Nat} (hg : ∀ vs P, (g vs P).len ≤ n) : Bnd (putN e f g) (putD d f n) := fun x g' hx vs P => by
  unfold putN at hx
  unfold putD
  by_cases q : x = f
  · rw [if_pos q] at hx ⊢; cases hx; exact hg vs P
  · rw [if_neg q] at hx ⊢; exact h x g' hx vs P
mutual
theorem den_len (near : Bool) : ∀ (p : Part) (e : SEnv) (P : List Room) (d : Str → Nat), Bnd e d → (den near p e P).len ≤ p.cst d
  | .num n, e, P, d, h => by simp [den, Out.len]
  | .name x, e, P, d, h => by simp [den, Out.len, Part.cst]
  | .add a b, e, P, d, h => by
    have h1 := den_len near a e P d h
    have h2 := den_len near b e P d h
    simp only [den, Out.len_bnd, Part.cst]
    have : (⟨((den near a e P).v + (den near b e P).v) % 100, [], []⟩ : Out).len = 0 := rfl
    omega
  | .less a b, e, P, d, h => by
    have h1 := den_len near a e P d h
    have h2 := den_len near b e P d h
    simp only [den, Out.len_bnd, Part.cst]
    have : (⟨if (den near a e P).v < (den near b e P).v then 1 else 0, [], []⟩ : Out).len = 0 := rfl
    omega
  | .ite c a b, e, P, d, h => by
    have h0 := den_len near c e P d h
    have h1 := den_len near a e P d h
    have h2 := den_len near b e P d h
    simp only [den, Out.len_bnd, Part.cst]
    split <;> omega
  | .say a, e, P, d, h => by
    have h1 := den_len near a e P d h
    simp only [den, Out.len_bnd, Part.cst]
    have : (⟨(den near a e P).v, [], [(den near a e P).v]⟩ : Out).len = 1 := rfl
    omega
  | .lt x a b, e, P, d, h => by
    have h1 := den_len near a e P d h
    have h2 := den_len near b e (P ++ [[(x, (den near a e P).v)]]) d h
    simp only [den, Out.len_bnd, Part.cst]
    omega
  | .fn f ps b r, e, P, d, h => by
    simp only [den, Part.cst]
    exact den_len near r _ P _ (h.put fun vs Q => den_len near b e _ d h)
  | .call f as, e, P, d, h => by
    have h1 := dens_len near as e P d h
    simp only [den, Part.cst]
    cases q : e f with
    | none => simp only [Out.len]; omega
    | some g =>
      have h2 := h f g q ((dens near as e P).map (·.v)) P
      simp only [Out.len, List.length_append] at h2 ⊢
      omega
theorem dens_len (near : Bool) : ∀ (as : Parts) (e : SEnv) (P : List Room) (d : Str → Nat), Bnd e d → ((dens near as e P).flatMap (·.rows)).length + ((dens near as e P).flatMap (·.said)).length ≤ as.cst d
  | .nil, e, P, d, h => by simp [dens]
  | .cons p r, e, P, d, h => by
    have h1 := den_len near p e P d h
    have h2 := dens_len near r e P d h
    simp only [dens, List.flatMap_cons, List.length_append, Parts.cst]
    simp only [Out.len] at h1
    omega
end
theorem sem_bnd (near : Bool) : ∀ fe : List Fn, Bnd (sem near fe) (cnt fe)
  | [] => fun f g h => by simp [sem] at h
  | e :: t => (sem_bnd near t).put fun vs P => den_len near e.b _ _ _ (sem_bnd near t)
/-! ### what may be evaluated where -/
def EOk : List Fn → List Room → Prop
  | [], _ => True
  | e :: t, P => EOk t P ∧ EOk t e.home ∧ (∀ x ∈ e.ns, hasR P x) ∧ (∀ x ∈ e.ns, hasR e.home x) ∧ e.b.ok (e.ns ++ e.ps) (arF t) ∧ e.ps.Nodup ∧ e.ps.length ≤ 12 ∧ e.home.length + 1 + e.b.dpt (dlt t) ≤ 1000 ∧ t.length + e.b.dpt (dlt t) ≤ 1000 ∧ e.b.wid ≤ 1000 ∧ e.home ≠ [] ∧ (∀ x ∈ e.ns ++ e.ps, wordB x = true)
theorem EOk.mono : ∀ {fe : List Fn} {P P' : List Room}, EOk fe P → (∀ x, hasR P x → hasR P' x) → EOk fe P'
  | [], _, _, _, _ => trivial
  | e :: t, P, P', h, k => ⟨EOk.mono h.1 k, h.2.1, fun x hx => k x (h.2.2.1 x hx), h.2.2.2⟩
theorem hasR.app {P : List Room} {x : Str} (h : hasR P x) (Q : List Room) : hasR (P ++ Q) x := by
  obtain ⟨r, hr, e⟩ := h
  exact ⟨r, List.mem_append_left _ hr, e⟩
theorem lookup_zip : ∀ {ps : List Str} {vs : List Int} {x : Str}, ps.length = vs.length → x ∈ ps → ((ps.zip vs).lookup x).isSome = true
  | p :: ps, [], x, hl, _ => by simp at hl
  | p :: ps, v :: vs, x, hl, h => by
    by_cases e : x = p
    · subst e; simp [List.lookup]
    · have q : (x == p) = false := by simpa using e
      have h' : x ∈ ps := by
        rcases List.mem_cons.mp h with z | z
        · exact absurd z e
        · exact z
      simp only [List.zip_cons_cons, List.lookup, q]
      exact lookup_zip (by simpa using hl) h'
theorem hasR.zip {P : List Room} {ps : List Str} {vs : List Int} {x : Str} (hl : ps.length = vs.length) (h : x ∈ ps) : hasR (P ++ [ps.zip vs]) x :=
  ⟨ps.zip vs, List.mem_append_right _ (List.mem_singleton.mpr rfl), lookup_zip hl h⟩
theorem hasR.one (P : List Room) (x : Str) (i : Int) : hasR (P ++ [[(x, i)]]) x := ⟨_, List.mem_append_right _ (List.mem_singleton.mpr rfl), by simp [List.lookup]⟩
/-- the function of a name -/
theorem env_at (near : Bool) : ∀ {fe : List Fn} {f : Str} {n : Nat} {P : List Room}, arF fe f = some n → EOk fe P → ∃ (e : Fn) (t l : List Fn), fe = l ++ e :: t ∧ e.f = f ∧ (∀ x ∈ l, x.f ≠ f) ∧ e.ps.length = n ∧ EOk (e :: t) P ∧ dlt fe f = e.b.dpt (dlt t) ∧ cnt fe f = e.b.cst (cnt t) ∧
    sem near fe f = some (fun vs dyn => den near e.b (sem near t) ((if near = true then e.home else dyn) ++ [e.ps.zip vs]))
  | [], f, n, P, h, _ => by simp [arF] at h
  | e :: t, f, n, P, h, E => by
    by_cases q : f = e.f
    · subst q
      refine ⟨e, t, [], rfl, rfl, fun _ z => by simp at z, ?_, E, by simp [dlt, putD], by simp [cnt, putD], by simp [sem, putN]⟩
      simpa [arF, putN] using h
    · have h' : arF t f = some n := by simpa [arF, putN, q] using h
      obtain ⟨e', t', l, rfl, h1, h2, h3, h4, h5, h6, h7⟩ := env_at near h' E.1
      refine ⟨e', t', e :: l, rfl, h1, fun x hx => ?_, h3, h4, by simpa [dlt, putD, q] using h5, by simpa [cnt, putD, q] using h6, by simpa [sem, putN, q] using h7⟩
      rcases List.mem_cons.mp hx with rfl | hx
      · exact fun z => q z.symm
      · exact h2 x hx
end BN
namespace BN
open PySem L2
/-! ### how deep and how much a drawn program goes -/
def gA : Nat → Nat
  | 0 => 1
  | 1 => 6
  | n + 2 => 2 * gA (n + 1) + 2
theorem gA_step (n : Nat) : 2 * gA n + 2 ≤ gA (n + 1) ∧ gA n + 5 ≤ gA (n + 1) ∧ 1 ≤ gA n := by
  induction n with
  | zero => decide
  | succ n ih => simp only [gA]; omega
theorem gA_mono {m n : Nat} (h : m ≤ n) : gA m ≤ gA n := by
  induction n with
  | zero => have : m = 0 := by omega
            subst this; exact Nat.le_refl _
  | succ n ih =>
    by_cases e : m = n + 1
    · subst e; exact Nat.le_refl _
    · have := ih (by omega)
      have := gA_step n
      omega
theorem leaf_dpt {names : List Str} {p : Part} (h : Leaf names p) (d : Str → Nat) : p.dpt d = 1 := by cases h <;> simp [Part.dpt]
theorem parts_dpt {d : Str → Nat} : ∀ {l : List Part} {n : Nat}, (∀ a ∈ l, a.dpt d ≤ n) → (Parts.of l).dpt d ≤ n
  | [], _, _ => by simp [Parts.of, Parts.dpt]
  | p :: r, n, h => by
    have h1 := h p (by simp)
    have h2 : (Parts.of r).dpt d ≤ n := parts_dpt fun a ha => h a (List.mem_cons_of_mem _ ha)
    simp only [Parts.of, Parts.dpt]; omega
theorem putD_le {δ : Str → Nat} {M n : Nat} (h : ∀ f, δ f ≤ M) (hM : M ≤ n) (f : Str) : ∀ g, putD δ f n g ≤ n := fun g => by
  unfold putD
  by_cases e : g = f
  · rw [if_pos e]; exact Nat.le_refl _
  · rw [if_neg e]; have := h g; omega
theorem putD_le' {δ : Str → Nat} {M n m : Nat} (h : ∀ f, δ f ≤ M) (hM : M ≤ n) (hm : m ≤ n) (f : Str) : ∀ g, putD δ f m g ≤ n := fun g => by
  unfold putD
  by_cases e : g = f
  · rw [if_pos e]; exact hm
  · rw [if_neg e]; have := h g; omega
theorem gen_dpt {ws : List Str} {d names funs p} (h : Gen ws d names funs p) : ∀ (δ : Str → Nat) (M : Nat), (∀ f, δ f ≤ M) → p.dpt δ ≤ gA d.toNat + M := by
  have st : ∀ {d : Int}, 0 < d → 2 * gA (d - 1).toNat + 2 ≤ gA d.toNat ∧ gA (d - 1).toNat + 5 ≤ gA d.toNat ∧ gA (d - 2).toNat ≤ gA (d - 1).toNat ∧ 1 ≤ gA (d - 1).toNat := fun {d} h0 => by
    have e : d.toNat = (d - 1).toNat + 1 := by omega
    have := gA_step (d - 1).toNat
    rw [e]
    exact ⟨this.1, this.2.1, gA_mono (by omega), this.2.2⟩
  induction h with
  | leaf h => intro δ M hM; rw [leaf_dpt h]; have := (gA_step (Int.toNat ‹Int›)).2.2; omega
  | @fn d names funs f ps b r h0 _ _ _ _ _ _ ib ir =>
    intro δ M hM
    have s := st h0
    have h1 := ib δ M hM
    have h2 := ir (putD δ f (b.dpt δ)) _ (putD_le' hM (Nat.le_add_left M _) h1 f)
    simp only [Part.dpt]; omega
  | @fnc d names funs f ps b r w l as h0 _ _ _ _ _ _ _ hle has _ ib ir =>
    intro δ M hM
    have s := st h0
    have h1 := ib δ M hM
    have h2 := ir (putD δ f (b.dpt δ)) _ (putD_le' hM (Nat.le_add_left M _) h1 f)
    have h3 := leaf_dpt hle (putD δ f (b.dpt δ))
    have h4 := parts_dpt (d := putD δ f (b.dpt δ)) (n := 1) fun a ha => Nat.le_of_eq (leaf_dpt (has a ha) _)
    have h5 : putD δ f (b.dpt δ) f = b.dpt δ := by simp [putD]
    simp only [Part.dpt]; omega
  | lt h0 _ _ _ ia ib =>
    intro δ M hM
    have s := st h0
    have h1 := ia δ M hM
    have h2 := ib δ M hM
    simp only [Part.dpt]; omega
  | @call d names funs f as h0 _ _ ih =>
    intro δ M hM
    have s := st h0
    have h1 := parts_dpt (d := δ) fun a ha => ih a ha δ M hM
    have h2 := hM f
    simp only [Part.dpt]; omega
  | say h0 _ ih =>
    intro δ M hM
    have s := st h0
    have h1 := ih δ M hM
    simp only [Part.dpt]; omega
  | ite h0 _ _ hl ic ia =>
    intro δ M hM
    have s := st h0
    have h1 := ic δ M hM
    have h2 := ia δ M hM
    have h3 := leaf_dpt hl δ
    simp only [Part.dpt]; omega
  | add h0 _ _ ia ib =>
    intro δ M hM
    have s := st h0
    have h1 := ia δ M hM
    have h2 := ib δ M hM
    simp only [Part.dpt]; omega
  | less h0 _ _ ia ib =>
    intro δ M hM
    have s := st h0
    have h1 := ia δ M hM
    have h2 := ib δ M hM
    simp only [Part.dpt]; omega
def kA (d : Int) : Nat := if d ≤ 0 then 1 else if d = 1 then 7 else if d = 2 then 26 else if d = 3 then 109 else if d = 4 then 877 else 38593
def kB (d : Int) : Nat := if d ≤ 0 then 0 else if d = 1 then 1 else if d = 2 then 2 else if d = 3 then 6 else if d = 4 then 42 else 1806
theorem c_tab {d : Int} (h0 : 0 < d) (h5 : d ≤ 5) : (kA d = 7 ∧ kB d = 1 ∧ kA (d - 1) = 1 ∧ kB (d - 1) = 0 ∧ kA (d - 2) = 1 ∧ kB (d - 2) = 0) ∨ (kA d = 26 ∧ kB d = 2 ∧ kA (d - 1) = 7 ∧ kB (d - 1) = 1 ∧ kA (d - 2) = 1 ∧ kB (d - 2) = 0) ∨
    (kA d = 109 ∧ kB d = 6 ∧ kA (d - 1) = 26 ∧ kB (d - 1) = 2 ∧ kA (d - 2) = 7 ∧ kB (d - 2) = 1) ∨ (kA d = 877 ∧ kB d = 42 ∧ kA (d - 1) = 109 ∧ kB (d - 1) = 6 ∧ kA (d - 2) = 26 ∧ kB (d - 2) = 2) ∨
    (kA d = 38593 ∧ kB d = 1806 ∧ kA (d - 1) = 877 ∧ kB (d - 1) = 42 ∧ kA (d - 2) = 109 ∧ kB (d - 2) = 6) := by
  have : d = 1 ∨ d = 2 ∨ d = 3 ∨ d = 4 ∨ d = 5 := by omega
  rcases this with rfl | rfl | rfl | rfl | rfl
  · exact .inl (by decide)
  · exact .inr (.inl (by decide))
  · exact .inr (.inr (.inl (by decide)))
  · exact .inr (.inr (.inr (.inl (by decide))))
  · exact .inr (.inr (.inr (.inr (by decide))))
theorem leaf_cst {names : List Str} {p : Part} (h : Leaf names p) (d : Str → Nat) : p.cst d ≤ 1 := by cases h <;> simp [Part.cst]
theorem parts_cst {d : Str → Nat} {n : Nat} : ∀ {l : List Part}, (∀ a ∈ l, a.cst d ≤ n) → (Parts.of l).cst d ≤ l.length * n
  | [], _ => by simp [Parts.of, Parts.cst]
  | p :: r, h => by
    have h1 := h p (by simp)
    have h2 := parts_cst (d := d) (n := n) (l := r) fun a ha => h a (List.mem_cons_of_mem _ ha)
    simp only [Parts.of, Parts.cst, List.length_cons, Nat.succ_mul]; omega
theorem parts_cst4 {d : Str → Nat} {n : Nat} {l : List Part} (h4 : l.length ≤ 4) (h : ∀ a ∈ l, a.cst d ≤ n) : (Parts.of l).cst d ≤ 4 * n :=
  Nat.le_trans (parts_cst h) (Nat.mul_le_mul_right n h4)
theorem gen_cst {ws : List Str} {d names funs p} (h : Gen ws d names funs p) : d ≤ 5 → (∀ e ∈ funs, e.2 ≤ 4) → ∀ (ν : Str → Nat) (M : Nat), (∀ f, ν f ≤ M) → p.cst ν ≤ kA d + kB d * M := by
  have kn : ∀ {funs : List (Str × Nat)} {f : Str} {n : Nat}, n ≤ 4 → (∀ e ∈ funs, e.2 ≤ 4) → ∀ e ∈ known funs f n, e.2 ≤ 4 := fun h0 h e he => by
    rcases List.mem_append.mp he with q | q
    · exact h e (List.mem_filter.mp q).1
    · rw [List.mem_singleton.mp q]; exact h0
  induction h with
  | @leaf d names funs p h =>
    intro h5 q ν M hM
    have h1 := leaf_cst h ν
    have : 1 ≤ kA d := by
      by_cases h0 : 0 < d
      · rcases c_tab h0 h5 with t | t | t | t | t <;> omega
      · unfold kA; rw [if_pos (by omega)]; omega
    omega
  | @fn d names funs f ps b r h0 _ _ _ hl _ _ ib ir =>
    intro h5 q ν M hM
    have h1 := ib (by omega) q ν M hM
    have h2 := ir (by omega) (kn hl q) (putD ν f (b.cst ν))
    simp only [Part.cst]
    rcases c_tab h0 h5 with ⟨t1, t2, t3, t4, t5, t6⟩ | ⟨t1, t2, t3, t4, t5, t6⟩ | ⟨t1, t2, t3, t4, t5, t6⟩ | ⟨t1, t2, t3, t4, t5, t6⟩ | ⟨t1, t2, t3, t4, t5, t6⟩ <;> rw [t3, t4] at h1 h2 <;> rw [t1, t2]
    · have h3 := h2 (1 + M) (putD_le' hM (by omega) (by omega) f); omega
    · have h3 := h2 (7 + 1 * M) (putD_le' hM (by omega) (by omega) f); omega
    · have h3 := h2 (26 + 2 * M) (putD_le' hM (by omega) (by omega) f); omega
    · have h3 := h2 (109 + 6 * M) (putD_le' hM (by omega) (by omega) f); omega
    · have h3 := h2 (877 + 42 * M) (putD_le' hM (by omega) (by omega) f); omega
  | @fnc d names funs f ps b r w l as h0 _ _ _ hl _ _ _ hle has hlen ib ir =>
    intro h5 q ν M hM
    have h1 := ib (by omega) q ν M hM
    have h2 := ir (by omega) (kn hl q) (putD ν f (b.cst ν))
    have h6 := leaf_cst hle (putD ν f (b.cst ν))
    have h7 := parts_cst4 (d := putD ν f (b.cst ν)) (n := 1) (l := as) (by omega) fun a ha => leaf_cst (has a ha) _
    have h8 : putD ν f (b.cst ν) f = b.cst ν := by simp [putD]
    simp only [Part.cst]
    rcases c_tab h0 h5 with ⟨t1, t2, t3, t4, t5, t6⟩ | ⟨t1, t2, t3, t4, t5, t6⟩ | ⟨t1, t2, t3, t4, t5, t6⟩ | ⟨t1, t2, t3, t4, t5, t6⟩ | ⟨t1, t2, t3, t4, t5, t6⟩ <;> rw [t3, t4] at h1 h2 <;> rw [t1, t2]
    · have h3 := h2 (1 + M) (putD_le' hM (by omega) (by omega) f); omega
    · have h3 := h2 (7 + 1 * M) (putD_le' hM (by omega) (by omega) f); omega
    · have h3 := h2 (26 + 2 * M) (putD_le' hM (by omega) (by omega) f); omega
    · have h3 := h2 (109 + 6 * M) (putD_le' hM (by omega) (by omega) f); omega
    · have h3 := h2 (877 + 42 * M) (putD_le' hM (by omega) (by omega) f); omega
  | @lt d names funs x a b h0 _ _ _ ia ib =>
    intro h5 q ν M hM
    have h1 := ia (by omega) q ν M hM
    have h2 := ib (by omega) q ν M hM
    simp only [Part.cst]
    rcases c_tab h0 h5 with ⟨t1, t2, t3, t4, t5, t6⟩ | ⟨t1, t2, t3, t4, t5, t6⟩ | ⟨t1, t2, t3, t4, t5, t6⟩ | ⟨t1, t2, t3, t4, t5, t6⟩ | ⟨t1, t2, t3, t4, t5, t6⟩ <;> rw [t5, t6] at h1 <;> rw [t3, t4] at h2 <;> rw [t1, t2] <;> omega
  | @call d names funs f as h0 hm _ ih =>
    intro h5 q ν M hM
    have h4 : as.length ≤ 4 := q _ hm
    have h1 := parts_cst4 (d := ν) h4 fun a ha => ih a ha (by omega) q ν M hM
    have h2 := hM f
    simp only [Part.cst]
    rcases c_tab h0 h5 with ⟨t1, t2, t3, t4, t5, t6⟩ | ⟨t1, t2, t3, t4, t5, t6⟩ | ⟨t1, t2, t3, t4, t5, t6⟩ | ⟨t1, t2, t3, t4, t5, t6⟩ | ⟨t1, t2, t3, t4, t5, t6⟩ <;> rw [t5, t6] at h1 <;> rw [t1, t2] <;> omega
  | @say d names funs a h0 _ ih =>
    intro h5 q ν M hM
    have h1 := ih (by omega) q ν M hM
    simp only [Part.cst]
    rcases c_tab h0 h5 with ⟨t1, t2, t3, t4, t5, t6⟩ | ⟨t1, t2, t3, t4, t5, t6⟩ | ⟨t1, t2, t3, t4, t5, t6⟩ | ⟨t1, t2, t3, t4, t5, t6⟩ | ⟨t1, t2, t3, t4, t5, t6⟩ <;> rw [t3, t4] at h1 <;> rw [t1, t2] <;> omega
  | @ite d names funs c a l h0 _ _ hl ic ia =>
    intro h5 q ν M hM
    have h1 := ic (by omega) q ν M hM
    have h2 := ia (by omega) q ν M hM
    have h3 := leaf_cst hl ν
    simp only [Part.cst]
    rcases c_tab h0 h5 with ⟨t1, t2, t3, t4, t5, t6⟩ | ⟨t1, t2, t3, t4, t5, t6⟩ | ⟨t1, t2, t3, t4, t5, t6⟩ | ⟨t1, t2, t3, t4, t5, t6⟩ | ⟨t1, t2, t3, t4, t5, t6⟩ <;> rw [t5, t6] at h1 h2 <;> rw [t1, t2] <;> omega
  | @add d names funs a b h0 _ _ ia ib =>
    intro h5 q ν M hM
    have h1 := ia (by omega) q ν M hM
    have h2 := ib (by omega) q ν M hM
    simp only [Part.cst]
    rcases c_tab h0 h5 with ⟨t1, t2, t3, t4, t5, t6⟩ | ⟨t1, t2, t3, t4, t5, t6⟩ | ⟨t1, t2, t3, t4, t5, t6⟩ | ⟨t1, t2, t3, t4, t5, t6⟩ | ⟨t1, t2, t3, t4, t5, t6⟩ <;> rw [t5, t6] at h1 h2 <;> rw [t1, t2] <;> omega
  | @less d names funs a b h0 _ _ ia ib =>
    intro h5 q ν M hM
    have h1 := ia (by omega) q ν M hM
    have h2 := ib (by omega) q ν M hM
    simp only [Part.cst]
    rcases c_tab h0 h5 with ⟨t1, t2, t3, t4, t5, t6⟩ | ⟨t1, t2, t3, t4, t5, t6⟩ | ⟨t1, t2, t3, t4, t5, t6⟩ | ⟨t1, t2, t3, t4, t5, t6⟩ | ⟨t1, t2, t3, t4, t5, t6⟩ <;> rw [t5, t6] at h1 h2 <;> rw [t1, t2] <;> omega
theorem cA_le {d : Int} (h : d ≤ 5) : kA d ≤ 38593 := by
  by_cases h0 : 0 < d
  · rcases c_tab h0 h with t | t | t | t | t <;> omega
  · unfold kA; rw [if_pos (by omega)]; omega
theorem Drawn.dpt {d : Int} {ins : List Str} {p : Part} (h : Drawn d ins p) (h5 : d ≤ 5) : p.dpt (fun _ => 0) ≤ 127 ∧ p.cst (fun _ => 0) ≤ 77186 := by
  obtain ⟨ws, k, W, hk, hi, hg⟩ := h.ex
  have g5 : gA d.toNat ≤ 126 := Nat.le_trans (gA_mono (n := 5) (by omega)) (by decide)
  have cb := cA_le h5
  have dp : ∀ {q : Part}, Gen ws d ins [] q → q.dpt (fun _ => 0) ≤ 126 ∧ q.cst (fun _ => 0) ≤ 38593 := fun {q} g => by
    have h1 := gen_dpt g (fun _ => 0) 0 fun _ => Nat.le_refl _
    have h2 := gen_cst g h5 (fun e he => by simp at he) (fun _ => 0) 0 fun _ => Nat.le_refl _
    omega
  rcases hg with g | ⟨a, b, rfl, ga, gb⟩ | rfl
  · have := dp g; omega
  · have h1 := dp ga
    have h2 := dp gb
    simp only [Part.dpt, Part.cst]; omega
  · simp [Part.dpt, Part.cst]
end BN
namespace BNZ
open PySem PySem.Spec PyProof.Rows L2
/-! ### a zip whose last tuple is still held: any two iterators -/
section
variable {prog : Program} {w : World} {A : Around} {E : Value → Shared → Prop} {s : Shared} {z TI TO T i1 i2 : Addr} {fp1 fp2 : List Addr} {n1 n2 i : Nat} {P1 P2 : Nat → Value → Prop} {St1 St2 : Nat → Heap → Prop} {f : Bool} {oT : Obj}
theorem held_item {Q : Value → Shared → Prop} (S : ZipSep2 z TI TO i1 i2 fp1 fp2) (D1 : Draws prog w A i1 fp1 n1 P1 St1) (D2 : Draws prog w A i2 fp2 n2 P2 St2)
    (hz : IsZipHeld s.heap z TI TO T f) (hT : s.heap.get? T = some oT) (hTI : IsTupOf2 s.heap TI (.ref i1) (.ref i2)) (st1 : St1 i s.heap) (st2 : St2 i s.heap) (hlt1 : i < n1) (hlt2 : i < n2)
    (hQ : ∀ x1 x2 h' tk, P1 i x1 → P2 i x2 → IsZipHeld h' z TI TO T true → St1 (i + 1) h' → St2 (i + 1) h' → IsTupOf2 h' s.heap.objs.size x1 x2 → h'.objs.size = s.heap.objs.size + 1 →
      (∀ c o, c ≠ z → c ≠ i1 → c ≠ i2 → s.heap.get? c = some o → h'.get? c = some o) → Q (.ref s.heap.objs.size) { s with heap := h', toks := tk }) :
    wpAny (model prog w) A (Builtin.«zip.__next__» ⟨[.ref z], []⟩) (fun fin s' => ∃ v, fin = .done (.ret v) ∧ Q v s') E s := by
  obtain ⟨hp, g, d, tk0, os⟩ := s
  show wpAny _ _ (field (.ref z) 2 >>= _) _ _ _
  refine wpAny_bind (wpAny_field hz rfl (x := .bool false) rfl ?_)
  show wpAny _ _ (field (.ref z) 3 >>= _) _ _ _
  refine wpAny_bind (wpAny_field hz rfl (x := .ref TI) rfl ?_)
  refine wpAny_bind (wpAny_seqItems hTI rfl ?_)
  show wpAny _ _ (Builtin.SmallTypes.ownedTupleIsFree (.ref z) >>= _) _ _ _
  refine wpAny_bind (wpAny_tupleHeld_zip hz hT fun g0 hz0 hs0 => ?_)
  replace hs0 : Heap.SameBut z hp g0 := hs0
  simp only [Bool.false_eq_true, if_false]
  refine wpAny_bind ?_
  rw [← Array.forIn_toList]
  simp only [List.forIn_cons, List.forIn_nil]
  refine wpAny_bind (wpAny_bind (wpAny_holding ?_))
  show wpAny _ _ (Builtin.SmallTypes.nextOf (.ref i1) >>= _) _ _ ⟨g0, g, d, tk0, os⟩
  refine wpAny_bind (D1.item i _ _ _ hlt1 (D1.over st1 hs0 S.zf1) fun x1 p1 tk1 hx1 sn1 hp1 => wpAny_pure ?_)
  replace hp1 : Heap.SameBut i1 g0 p1 := hp1
  refine wpAny_pure ?_
  refine wpAny_bind (wpAny_bind (wpAny_holding ?_))
  show wpAny _ _ (Builtin.SmallTypes.nextOf (.ref i2) >>= _) _ _ ⟨p1, g, d, tk1, os⟩
  refine wpAny_bind (D2.item i _ _ _ hlt2 (D2.over (D2.over st2 hs0 S.zf2) hp1 S.sep1_2) fun x2 p2 tk2 hx2 sn2 hp2 => wpAny_pure ?_)
  replace hp2 : Heap.SameBut i2 p1 p2 := hp2
  refine wpAny_pure (wpAny_pure ?_)
  show wpAny _ _ (newTuple [x1, x2] >>= _) _ _ ⟨p2, g, d, tk2, os⟩
  refine wpAny_bind (wpAny_newTuple ?_)
  have hsz : p2.objs.size = hp.objs.size := by rw [hp2.1, hp1.1, hs0.1]
  have hzz : IsZipHeld p2 z TI TO T true := hp2.extBut _ _ S.zi2 (hp1.extBut _ _ S.zi1 hz0)
  have hk : ∀ c o, c ≠ z → c ≠ i1 → c ≠ i2 → hp.get? c = some o → p2.get? c = some o := fun c o c1 c2 c3 e => hp2.extBut _ _ c3 (hp1.extBut _ _ c2 (hs0.extBut _ _ c1 e))
  have hj1 : St1 (i + 1) p2 := D1.over sn1 hp2 S.sep2_1
  refine wpAny_pure ⟨_, rfl, ?_⟩
  show Q (.ref p2.objs.size) ⟨p2.push { cls := .type "tuple", data := .seq #[x1, x2] }, g, d, tk2, os⟩
  have hp' : IsTupOf2 (p2.push { cls := .type "tuple", data := .seq #[x1, x2] }) p2.objs.size x1 x2 := Heap.get?_push_size _ rfl
  have hz4 : (p2.push { cls := .type "tuple", data := .seq #[x1, x2] }).objs.size = p2.objs.size + 1 := Heap.size_push ..
  rw [hsz] at hp' hz4 ⊢
  exact hQ x1 x2 _ tk2 hx1 hx2 (Heap.get?_push_of_some _ hzz) (D1.frame _ _ _ hj1 fun b _ o e => Heap.get?_push_of_some _ e) (D2.frame _ _ _ sn2 fun b _ o e => Heap.get?_push_of_some _ e) hp' hz4 fun c o c1 c2 c3 e => Heap.get?_push_of_some _ (hk c o c1 c2 c3 e)
theorem held_end {Q : Fin → Shared → Prop} (S : ZipSep2 z TI TO i1 i2 fp1 fp2) (D1 : Draws prog w A i1 fp1 n1 P1 St1)
    (hz : IsZipHeld s.heap z TI TO T f) (hT : s.heap.get? T = some oT) (hTI : IsTupOf2 s.heap TI (.ref i1) (.ref i2)) (st1 : St1 n1 s.heap)
    (hE : ∀ h' e, (∀ c o, c ≠ z → c ≠ i1 → s.heap.get? c = some o → h'.get? c = some o) → (∃ o, h'.get? e = some o ∧ o.cls = .type "StopIteration") → E (.ref e) { s with heap := h' }) :
    wpAny (model prog w) A (Builtin.«zip.__next__» ⟨[.ref z], []⟩) Q E s := by
  obtain ⟨hp, g, d, tk0, os⟩ := s
  show wpAny _ _ (field (.ref z) 2 >>= _) _ _ _
  refine wpAny_bind (wpAny_field hz rfl (x := .bool false) rfl ?_)
  show wpAny _ _ (field (.ref z) 3 >>= _) _ _ _
  refine wpAny_bind (wpAny_field hz rfl (x := .ref TI) rfl ?_)
  refine wpAny_bind (wpAny_seqItems hTI rfl ?_)
  show wpAny _ _ (Builtin.SmallTypes.ownedTupleIsFree (.ref z) >>= _) _ _ _
  refine wpAny_bind (wpAny_tupleHeld_zip hz hT fun g0 hz0 hs0 => ?_)
  replace hs0 : Heap.SameBut z hp g0 := hs0
  simp only [Bool.false_eq_true, if_false]
  refine wpAny_bind ?_
  rw [← Array.forIn_toList]
  simp only [List.forIn_cons, List.forIn_nil]
  refine wpAny_bind (wpAny_bind (wpAny_holding ?_))
  show wpAny _ _ (Builtin.SmallTypes.nextOf (.ref i1) >>= _) _ _ ⟨g0, g, d, tk0, os⟩
  refine wpAny_bind (D1.done ⟨g0, g, d, tk0, os⟩ _ _ (D1.over st1 hs0 S.zf1) fun q e hq he => ?_)
  replace hq : Heap.ExtBut i1 g0 q := hq
  exact hE q e (fun c o cz c1 x => hq _ _ c1 (hs0.extBut _ _ cz x)) he
/-- where a zip stands between two items -/
def ZSt (z TI TO i1 i2 L : Addr) (St1 St2 : Nat → Heap → Prop) (i : Nat) (h : Heap) : Prop :=
  IsTupOf2 h TI (.ref i1) (.ref i2) ∧ St1 i h ∧ St2 i h ∧ ((IsZip h z TI TO .none ∧ ∃ a1 a2, IsTupOf2 h TO a1 a2) ∨ ∃ T f oT, IsZipHeld h z TI TO T f ∧ h.get? T = some oT ∧ T ≠ z ∧ T ≠ i1 ∧ T ≠ i2 ∧ T ≠ L)
structure ZLow (z TI TO i1 i2 L : Addr) (fp1 fp2 : List Addr) : Prop where
  z : z < L
  TI : TI < L
  TO : TO < L
  i1 : i1 < L
  i2 : i2 < L
  f1 : ∀ b ∈ fp1, b < L
  f2 : ∀ b ∈ fp2, b < L
theorem ZSt.keep {L : Addr} {h h' : Heap} (D1 : Draws prog w A i1 fp1 n1 P1 St1) (D2 : Draws prog w A i2 fp2 n2 P2 St2) (Z : ZLow z TI TO i1 i2 L fp1 fp2) (x : ZSt z TI TO i1 i2 L St1 St2 i h) (k : ∀ b o, b ≠ L → h.get? b = some o → h'.get? b = some o) : ZSt z TI TO i1 i2 L St1 St2 i h' := by
  obtain ⟨h1, s1, s2, h2⟩ := x
  refine ⟨k _ _ (Nat.ne_of_lt Z.TI) h1, D1.frame _ _ _ s1 fun b hb o e => k b o (Nat.ne_of_lt (Z.f1 b hb)) e, D2.frame _ _ _ s2 fun b hb o e => k b o (Nat.ne_of_lt (Z.f2 b hb)) e, ?_⟩
  rcases h2 with ⟨h2, a1, a2, h3⟩ | ⟨T, f, oT, h2, h3, t1, t2, t3, t4⟩
  · exact .inl ⟨k _ _ (Nat.ne_of_lt Z.z) h2, a1, a2, k _ _ (Nat.ne_of_lt Z.TO) h3⟩
  · exact .inr ⟨T, f, oT, k _ _ (Nat.ne_of_lt Z.z) h2, k _ _ t4 h3, t1, t2, t3, t4⟩
theorem z_item {L : Addr} {Q : Option Value → Shared → Prop} (S : ZipSep2 z TI TO i1 i2 fp1 fp2) (D1 : Draws prog w A.in1 i1 fp1 n1 P1 St1) (D2 : Draws prog w A.in1 i2 fp2 n2 P2 St2) (Z : ZLow z TI TO i1 i2 L fp1 fp2)
    (x : ZSt z TI TO i1 i2 L St1 St2 i s.heap) (hlt1 : i < n1) (hlt2 : i < n2) (hL : L < s.heap.objs.size)
    (hQ : ∀ x1 x2 h' tk, P1 i x1 → P2 i x2 → ZSt z TI TO i1 i2 L St1 St2 (i + 1) h' → IsTupOf2 h' s.heap.objs.size x1 x2 → h'.objs.size = s.heap.objs.size + 1 →
      (∀ c o, c ≠ z → c ≠ TO → c ≠ i1 → c ≠ i2 → s.heap.get? c = some o → h'.get? c = some o) → Q (some (.ref s.heap.objs.size)) { s with heap := h', toks := tk }) :
    wpAny (model prog w) A (pyNext (.ref z)) Q E s := by
  obtain ⟨hTI, s1, s2, h2⟩ := x
  have big : ∀ {b : Addr}, b < L → s.heap.objs.size ≠ b := fun hb => Nat.ne_of_gt (Nat.lt_trans hb hL)
  rcases h2 with ⟨h2, a1, a2, h3⟩ | ⟨T, f, oT, h2, h3, t1, t2, t3, t4⟩
  · refine wpAny_pyNext_zipD2_item S D1 D2 h2 hTI h3 s1 s2 hlt1 hlt2 fun x1 x2 h' tk y1 y2 b1 b2 d1 d2 b5 b6 hk => ?_
    exact hQ x1 x2 h' tk y1 y2 ⟨hk _ _ S.TIz S.TITO S.TIi1 S.TIi2 hTI, d1, d2, .inr ⟨_, false, _, b1, b5, big Z.z, big Z.i1, big Z.i2, Nat.ne_of_gt hL⟩⟩ b5 b6 hk
  · have hTy : s.TypeIs (.ref z) "zip" := ⟨_, h2, rfl⟩
    unfold pyNext
    exact wpAny_bind (wpAny_attempt (wpAny_callSpecial?_slot (name := Str.ofString "__next__") hTy F.slot_zip_next
      (wpAny_call_entry F.slot_zip_next hTy F.entry_zip_next
        (held_item S D1 D2 h2 h3 hTI s1 s2 hlt1 hlt2 fun x1 x2 h' tk y1 y2 b1 d1 d2 b5 b6 hk => wpAny_pure (hQ x1 x2 h' tk y1 y2 ⟨hk _ _ S.TIz S.TIi1 S.TIi2 hTI, d1, d2, .inr ⟨T, true, oT, b1, hk _ _ t1 t2 t3 h3, t1, t2, t3, t4⟩⟩ b5 b6 fun c o c1 _ c3 c4 e => hk c o c1 c3 c4 e)) (F.args_zip_next_1 _))))
theorem z_done {L : Addr} {Q : Option Value → Shared → Prop} (S : ZipSep2 z TI TO i1 i2 fp1 fp2) (D1 : Draws prog w A.in1 i1 fp1 n1 P1 St1) (D2 : Draws prog w A.in1 i2 fp2 n1 P2 St2) (x : ZSt z TI TO i1 i2 L St1 St2 n1 s.heap)
    (hQ : ∀ h' tk, (∀ c o, c ≠ z → c ≠ TO → c ≠ i1 → c ≠ i2 → s.heap.get? c = some o → h'.get? c = some o) → Q none { s with heap := h', toks := tk }) : wpAny (model prog w) A (pyNext (.ref z)) Q E s := by
  obtain ⟨hTI, s1, s2, h2⟩ := x
  rcases h2 with ⟨h2, a1, a2, h3⟩ | ⟨T, f, oT, h2, h3, t1, t2, t3, t4⟩
  · exact wpAny_pyNext_zipD2_end S D1 D2 h2 hTI h3 s1 s2 (Nat.le_refl _) (Nat.le_refl _) (.inl rfl) hQ
  · have hTy : s.TypeIs (.ref z) "zip" := ⟨_, h2, rfl⟩
    unfold pyNext
    refine wpAny_bind (wpAny_attempt (wpAny_callSpecial?_slot (name := Str.ofString "__next__") hTy F.slot_zip_next
      (wpAny_call_entry F.slot_zip_next hTy F.entry_zip_next (held_end S D1 h2 h3 hTI s1 fun h' e hk he => ?_) (F.args_zip_next_1 _))))
    obtain ⟨o, ho, hc⟩ := he
    refine wpAny_bind (wpAny_isInstance (T := "StopIteration") (b := true) ⟨o, ho, hc⟩ isSubtype_stop ?_)
    exact wpAny_pure (hQ _ s.toks fun c o c1 _ c3 _ e => hk c o c1 c3 e)
end
end BNZ
namespace BNZ
open PySem PySem.Calls PySem.Spec PyProof.Rows L2
/-- the tuples made so far, at as, above lo -/
structure ZG (P1 P2 : Nat → Value → Prop) (lo : Addr) (h : Heap) (as : List Addr) : Prop where
  rise : as.Pairwise (· < ·)
  above : ∀ a ∈ as, lo < a
  pairs : ∀ (j : Nat) (a : Addr), as[j]? = some a → ∃ x1 x2, P1 j x1 ∧ P2 j x2 ∧ IsTupOf2 h a x1 x2
theorem ZG.there {P1 P2 : Nat → Value → Prop} {lo : Addr} {h : Heap} {as : List Addr} (g : ZG P1 P2 lo h as) {a : Addr} (ha : a ∈ as) : a < h.objs.size := by
  obtain ⟨j, hj⟩ := List.mem_iff_getElem?.mp ha
  obtain ⟨_, _, _, _, e⟩ := g.pairs j a hj
  exact Heap.lt_size e
namespace F
theorem zip_no_len : typeLookup (.type "zip") "__len__" = pure none := by rw [typeLookup_type, builtinLookup_eq_fast]; kernel_rfl
theorem zip_no_hint : typeLookup (.type "zip") "__length_hint__" = pure none := by rw [typeLookup_type, builtinLookup_eq_fast]; kernel_rfl
end F
section
variable {prog : Program} {w : World} {A : Around} {E : Value → Shared → Prop} {s : Shared} {R : Result → Shared → Prop} {z TI TO i1 i2 : Addr} {fp1 fp2 : List Addr} {n : Nat} {P1 P2 : Nat → Value → Prop} {St1 St2 : Nat → Heap → Prop}
theorem z_loop {L : Addr} (S : ZipSep2 z TI TO i1 i2 fp1 fp2) (D1 : Draws prog w A.in1.in1 i1 fp1 n P1 St1) (D2 : Draws prog w A.in1.in1 i2 fp2 n P2 St2) (Z : ZLow z TI TO i1 i2 L fp1 fp2) (hn : n ≤ sizeLine) (res : Value) {h₁ : Heap}
    (hR : ∀ h' tk acc c as, (∀ b o, b ≠ L → b ≠ z → b ≠ TO → b ≠ i1 → b ≠ i2 → h₁.get? b = some o → h'.get? b = some o) → h'.get? L = some { cls := .type "list", dict := none, data := .seq acc c, slots := #[] } → as.length = n → ZG P1 P2 L h' as →
      acc.toList = as.map Value.ref → R (.ok (.ret res)) { s with heap := h', toks := tk }) :
    ∀ (k i : Nat) (h : Heap) (tk c : Nat) (acc : Array Value) (as : List Addr), n - i = k → i ≤ n → ZSt z TI TO i1 i2 L St1 St2 i h → (∀ b o, b ≠ L → b ≠ z → b ≠ TO → b ≠ i1 → b ≠ i2 → h₁.get? b = some o → h.get? b = some o) →
      h.get? L = some { cls := .type "list", dict := none, data := .seq acc c, slots := #[] } → acc.toList = as.map Value.ref → as.length = i → ZG P1 P2 L h as →
      codeAny (model prog w) A (.builtin "list.extend.loop" ⟨[.ref L, .ref z, res], []⟩) R { s with heap := h, toks := tk } := by
  intro k
  induction k with
  | zero =>
    intro i h tk c acc as hk hi hst hkeep hS hacc hal hG
    have hin : i = n := by omega
    subst hin
    refine codeAny_builtin PySem.F.entry_extend_loop ?_
    rw [Around.under_plainId PySem.F.plain_extend_loop _]
    show wpAny _ A.in1 (pyNext (.ref z) >>= _) _ _ _
    refine wpAny_bind (z_done (s := { s with heap := h, toks := tk }) (A := A.in1) S D1 D2 hst fun h' tk' he => ?_)
    have low : ∀ {b : Addr}, L ≤ b → b ≠ z ∧ b ≠ TO ∧ b ≠ i1 ∧ b ≠ i2 := fun {b} hb => ⟨Nat.ne_of_gt (Nat.lt_of_lt_of_le Z.z hb), Nat.ne_of_gt (Nat.lt_of_lt_of_le Z.TO hb), Nat.ne_of_gt (Nat.lt_of_lt_of_le Z.i1 hb), Nat.ne_of_gt (Nat.lt_of_lt_of_le Z.i2 hb)⟩
    have q : ∀ {b : Addr} {o : Obj}, L ≤ b → h.get? b = some o → h'.get? b = some o := fun {b o} hb e => he b o (low hb).1 (low hb).2.1 (low hb).2.2.1 (low hb).2.2.2 e
    refine wpAny_pure (hR h' tk' acc c as (fun b o a1 a2 a3 a4 a5 e => he b o a2 a3 a4 a5 (hkeep b o a1 a2 a3 a4 a5 e)) (q (Nat.le_refl _) hS) hal ⟨hG.rise, hG.above, fun j a hj => ?_⟩ hacc)
    obtain ⟨x1, x2, y1, y2, e⟩ := hG.pairs j a hj
    exact ⟨x1, x2, y1, y2, q (Nat.le_of_lt (hG.above a (List.mem_of_getElem? hj))) e⟩
  | succ k ih =>
    intro i h tk c acc as hk hi hst hkeep hS hacc hal hG
    have hlt : i < n := by omega
    have hsz : acc.size = i := by rw [← Array.length_toList, hacc, List.length_map, hal]
    have hSl : L < h.objs.size := Heap.lt_size hS
    have low : ∀ {b : Addr}, L ≤ b → b ≠ z ∧ b ≠ TO ∧ b ≠ i1 ∧ b ≠ i2 := fun {b} hb => ⟨Nat.ne_of_gt (Nat.lt_of_lt_of_le Z.z hb), Nat.ne_of_gt (Nat.lt_of_lt_of_le Z.TO hb), Nat.ne_of_gt (Nat.lt_of_lt_of_le Z.i1 hb), Nat.ne_of_gt (Nat.lt_of_lt_of_le Z.i2 hb)⟩
    refine codeAny_builtin PySem.F.entry_extend_loop ?_
    rw [Around.under_plainId PySem.F.plain_extend_loop _]
    show wpAny _ A.in1 (pyNext (.ref z) >>= _) _ _ _
    refine wpAny_bind (z_item (s := { s with heap := h, toks := tk }) (A := A.in1) S D1 D2 Z hst hlt hlt hSl fun x1 x2 h' tk' y1 y2 hst' ht hz hkp => ?_)
    have q : ∀ {b : Addr} {o : Obj}, L ≤ b → h.get? b = some o → h'.get? b = some o := fun {b o} hb e => hkp b o (low hb).1 (low hb).2.1 (low hb).2.2.1 (low hb).2.2.2 e
    dsimp only at ht hz hkp ⊢
    have hS' := q (Nat.le_refl _) hS
    have up : ∀ b o, b ≠ L → h'.get? b = some o → (h'.update L (Obj.mapSeq (·.push (Value.ref h.objs.size)))).get? b = some o := fun b o hb e => (Heap.get?_update_other _ _ (Ne.symm hb)).trans e
    show wpAny _ A.in1 (updateSeq L (·.push (Value.ref h.objs.size)) >>= _) _ _ _
    refine wpAny_bind ?_
    refine wpAny_updateSeq hS' rfl (wpAny_pure ⟨plainId_quiet PySem.F.plain_extend_loop _, ih (i + 1) _ tk' _ (acc.push (Value.ref h.objs.size)) (as ++ [h.objs.size]) (by omega) hlt (hst'.keep D1 D2 Z up)
      (fun b o a1 a2 a3 a4 a5 e => up b o a1 (hkp b o a2 a3 a4 a5 (hkeep b o a1 a2 a3 a4 a5 e))) (Heap.get?_update_self _ hS' rfl) (by rw [Array.toList_push, hacc, List.map_append]; rfl) (by rw [List.length_append, hal]; rfl) ⟨?_, ?_, ?_⟩⟩) (by rw [hsz]; omega) (by show (acc.push (Value.ref h.objs.size)).size ≤ sizeLine + 1; rw [Array.size_push, hsz]; omega)
    · refine List.pairwise_append.mpr ⟨hG.rise, List.pairwise_singleton _ _, fun a ha b hb => ?_⟩
      rw [List.mem_singleton.mp hb]
      exact hG.there ha
    · intro a ha
      rcases List.mem_append.mp ha with ha | ha
      · exact hG.above a ha
      · rw [List.mem_singleton.mp ha]; exact hSl
    · intro j b hj
      rcases Nat.lt_trichotomy j as.length with h1 | h1 | h1
      · rw [List.getElem?_append_left h1] at hj
        obtain ⟨u1, u2, v1, v2, e3⟩ := hG.pairs j b hj
        have hb := hG.above b (List.mem_of_getElem? hj)
        exact ⟨u1, u2, v1, v2, up b _ (Nat.ne_of_gt hb) (q (Nat.le_of_lt hb) e3)⟩
      · subst h1
        have hb : h.objs.size = b := by simpa using hj
        subst hb
        subst hal
        exact ⟨x1, x2, y1, y2, up _ _ (Nat.ne_of_gt hSl) ht⟩
      · have hnone : (as ++ [h.objs.size])[j]? = none := List.getElem?_eq_none (by rw [List.length_append, List.length_singleton]; omega)
        rw [hnone] at hj; cases hj
theorem z_extend {L : Addr} (S : ZipSep2 z TI TO i1 i2 fp1 fp2) (D1 : Draws prog w A.in1.in1 i1 fp1 n P1 St1) (D2 : Draws prog w A.in1.in1 i2 fp2 n P2 St2) (Z : ZLow z TI TO i1 i2 L fp1 fp2) (hn : n ≤ sizeLine) (res : Value) (c₀ : Nat)
    (hst : ZSt z TI TO i1 i2 L St1 St2 0 s.heap) (hZ : IsZip s.heap z TI TO .none) (hS : s.heap.get? L = some { cls := .type "list", data := .seq #[] c₀ })
    (hR : ∀ h' tk acc c as, (∀ b o, b ≠ L → b ≠ z → b ≠ TO → b ≠ i1 → b ≠ i2 → s.heap.get? b = some o → h'.get? b = some o) → h'.get? L = some { cls := .type "list", dict := none, data := .seq acc c, slots := #[] } → as.length = n → ZG P1 P2 L h' as →
      acc.toList = as.map Value.ref → R (.ok (.ret res)) { s with heap := h', toks := tk }) :
    wpAny (model prog w) A.in1 (Builtin.List.listExtendWith (.ref L) (.ref z) res)
      (fun fin s' => match fin with | .done f => R (.ok f) s' | .again c' => c'.quiet = true ∧ codeAny (model prog w) A c' R s') (fun e s' => R (.error e) s') s := by
  have hTy : s.TypeIs (.ref z) "zip" := ⟨_, hZ, rfl⟩
  unfold Builtin.List.listExtendWith
  refine wpAny_bind (wpAny_typeOf hTy ?_)
  have hzL : L ≠ z := Nat.ne_of_gt Z.z
  have h1 : Builtin.List.listSameRef (.ref L) (.ref z) = false := by simp [Builtin.List.listSameRef, hzL]
  have h2 : (Value.type "zip" == Value.type "list") = false := by decide
  have h3 : (Value.type "zip" == Value.type "tuple") = false := by decide
  simp only [h1, h2, h3, Bool.or_false, Bool.false_eq_true, if_false]
  refine wpAny_bind (wpAny_pyIter_zip hZ ?_)
  refine wpAny_bind (wpAny_holding ?_)
  unfold Builtin.List.listLengthHint
  refine wpAny_bind (wpAny_specialOf hTy F.zip_no_len ?_)
  show wpAny _ A.in1 (specialOf (Value.ref z) (Str.ofString "__length_hint__") >>= _) _ _ _
  refine wpAny_bind (wpAny_specialOf hTy F.zip_no_hint ?_)
  refine wpAny_pure ?_
  show wpAny _ A.in1 (rule "list.extend.makes-room" >>= fun _ => Builtin.List.listTouch (.ref L) >>= fun _ => again (.builtin "list.extend.loop" ⟨[.ref L, .ref z, res], []⟩)) _ _ _
  refine wpAny_bind (wpAny_rule ?_)
  refine wpAny_bind ?_
  show wpAny _ A.in1 (updateSeq L (·.push .none) >>= fun _ => updateSeq L (·.pop)) _ _ _
  refine wpAny_bind (wpAny_updateSeq hS rfl ?_)
  have hS₂ := Heap.get?_update_self (Obj.mapSeq (·.push Value.none)) hS rfl
  refine wpAny_updateSeq (hz := by seq_fits) hS₂ rfl ?_
  have hS₃ := Heap.get?_update_self (Obj.mapSeq (·.pop)) hS₂ rfl
  have oth : ∀ b o, b ≠ L → s.heap.get? b = some o → ((s.heap.update L (Obj.mapSeq (·.push Value.none))).update L (Obj.mapSeq (·.pop))).get? b = some o :=
    fun b o hb e => (Heap.get?_update_other _ _ (Ne.symm hb)).trans ((Heap.get?_update_other _ _ (Ne.symm hb)).trans e)
  refine wpAny_pure ⟨plainId_quiet PySem.F.plain_extend_loop _, ?_⟩
  refine z_loop (s := s) (h₁ := s.heap) S D1 D2 Z hn res hR n 0 _ s.toks _ #[] [] (Nat.sub_zero _) (Nat.zero_le _) (hst.keep D1 D2 Z oth) (fun b o a1 _ _ _ _ e => oth b o a1 e) hS₃ rfl rfl ⟨List.Pairwise.nil, (fun _ ha => nomatch ha), (fun j a hj => by simp at hj)⟩
theorem z_init {L : Addr} (S : ZipSep2 z TI TO i1 i2 fp1 fp2) (D1 : Draws prog w A.in1.in1 i1 fp1 n P1 St1) (D2 : Draws prog w A.in1.in1 i2 fp2 n P2 St2) (Z : ZLow z TI TO i1 i2 L fp1 fp2) (hn : n ≤ sizeLine)
    (hst : ZSt z TI TO i1 i2 L St1 St2 0 s.heap) (hZ : IsZip s.heap z TI TO .none) (hS : s.heap.get? L = some { cls := .type "list", data := .seq #[] })
    (hR : ∀ h' tk acc c as, (∀ b o, b ≠ L → b ≠ z → b ≠ TO → b ≠ i1 → b ≠ i2 → s.heap.get? b = some o → h'.get? b = some o) → h'.get? L = some { cls := .type "list", dict := none, data := .seq acc c, slots := #[] } → as.length = n → ZG P1 P2 L h' as →
      acc.toList = as.map Value.ref → R (.ok (.ret .none)) { s with heap := h', toks := tk }) :
    wpAny (model prog w) A.in1 (Builtin.«list.__init__» ⟨[.ref L, .ref z], []⟩)
      (fun fin s' => match fin with | .done f => R (.ok f) s' | .again c' => c'.quiet = true ∧ codeAny (model prog w) A c' R s') (fun e s' => R (.error e) s') s := by
  show wpAny _ _ (do let old ← Builtin.List.listItems (.ref L); Builtin.List.listUpdate (.ref L) (fun _ => #[]); letGo old.toList.reverse; Builtin.List.listExtendWith (.ref L) (.ref z) .none) _ _ s
  refine wpAny_bind ?_
  unfold Builtin.List.listItems
  refine wpAny_bind (wpAny_seqItems hS rfl (wpAny_pure ?_))
  show wpAny _ _ (updateSeq L (fun _ => #[]) >>= fun _ => letGo (#[] : Array Value).toList.reverse >>= fun _ => Builtin.List.listExtendWith (.ref L) (.ref z) .none) _ _ s
  refine wpAny_bind (wpAny_updateSeq hS rfl ?_)
  have hS₂ := Heap.get?_update_self (Obj.mapSeq (fun _ => (#[] : Array Value))) hS rfl
  have oth : ∀ b o, b ≠ L → s.heap.get? b = some o → (s.heap.update L (Obj.mapSeq (fun _ => (#[] : Array Value)))).get? b = some o :=
    fun b o hb e => (Heap.get?_update_other _ _ (Ne.symm hb)).trans e
  refine wpAny_bind (wpAny_letGo ?_)
  refine z_extend S D1 D2 Z hn .none _ (hst.keep D1 D2 Z oth) (oth _ _ (Nat.ne_of_lt Z.z) hZ) hS₂ fun h' tk acc c as hk hS' hl hG hacc => ?_
  exact hR h' tk acc c as (fun b o a1 a2 a3 a4 a5 e => hk b o a1 a2 a3 a4 a5 (oth b o a1 e)) hS' hl hG hacc
theorem z_call {Q : Value → Shared → Prop} (S : ZipSep2 z TI TO i1 i2 fp1 fp2) (D1 : Draws prog w A.in1.in1.in1 i1 fp1 n P1 St1) (D2 : Draws prog w A.in1.in1.in1 i2 fp2 n P2 St2) (Z : ZLow z TI TO i1 i2 s.heap.objs.size fp1 fp2) (hn : n ≤ sizeLine)
    (hTI : IsTupOf2 s.heap TI (.ref i1) (.ref i2)) (hTO : ∃ a1 a2, IsTupOf2 s.heap TO a1 a2) (s1 : St1 0 s.heap) (s2 : St2 0 s.heap) (hZ : IsZip s.heap z TI TO .none)
    (hQ : ∀ h' tk acc c as, (∀ b o, b ≠ z → b ≠ TO → b ≠ i1 → b ≠ i2 → s.heap.get? b = some o → h'.get? b = some o) → h'.get? s.heap.objs.size = some { cls := .type "list", dict := none, data := .seq acc c, slots := #[] } → as.length = n → ZG P1 P2 s.heap.objs.size h' as →
      acc.toList = as.map Value.ref → Q (.ref s.heap.objs.size) { s with heap := h', toks := tk }) :
    wpAny (model prog w) A (call (.type "list") [.ref z]) Q E s := by
  refine callType_codes (Q₁ := fun obj s₁ => obj = .ref s.heap.objs.size ∧ s₁ = { s with heap := s.heap.push { cls := .type "list", data := .seq #[] } }) PySem.F.called_list (PySem.F.typeCall_list_1 _) PySem.F.entry_list_init
    (code_list_new _ ⟨rfl, rfl⟩) fun obj s₁ h₁ => ?_
  obtain ⟨rfl, rfl⟩ := h₁
  have hS : (s.heap.push { cls := .type "list", data := .seq #[] }).get? s.heap.objs.size = some { cls := .type "list", data := .seq #[] } := Heap.get?_push_size _ rfl
  have up : ∀ b o, s.heap.get? b = some o → (s.heap.push { cls := .type "list", data := .seq #[] }).get? b = some o := fun b o e => Heap.get?_push_of_some _ e
  obtain ⟨a1, a2, hTO⟩ := hTO
  refine ⟨⟨_, hS, rfl⟩, PySem.F.args_list_init_2 _ _, z_init (A := A.in1) S D1 D2 Z hn ⟨up _ _ hTI, D1.frame _ _ _ s1 fun b _ o e => up b o e, D2.frame _ _ _ s2 fun b _ o e => up b o e, .inl ⟨up _ _ hZ, a1, a2, up _ _ hTO⟩⟩ (up _ _ hZ) hS fun h' tk acc c as hk hS' hl hG hacc => ?_⟩
  exact ⟨rfl, hQ h' tk acc c as (fun b o a2 a3 a4 a5 e => hk b o (Nat.ne_of_lt (Heap.lt_size e)) a2 a3 a4 a5 (up b o e)) hS' hl hG hacc⟩
end
end BNZ
namespace BNZ
open PySem PySem.Calls PySem.Spec PyProof.Rows L2 BN
/-- the tuples tracked at their addresses -/
def putP : Hp → List Addr → List (V × V) → Hp
  | H, a :: as, p :: ps => putP (upd H a (.tup [p.1, p.2])) as ps
  | H, _, _ => H
theorem putP_off {b : Addr} : ∀ (as : List Addr) (ps : List (V × V)) (H : Hp), b ∉ as → putP H as ps b = H b
  | [], _, _, _ => rfl
  | _ :: _, [], _, _ => rfl
  | a :: as, p :: ps, H, h => by
    show putP (upd H a (.tup [p.1, p.2])) as ps b = H b
    rw [putP_off as ps _ (fun z => h (List.mem_cons_of_mem _ z)), upd_ne (fun z => h (by rw [z]; exact List.mem_cons_self))]
theorem putP_at : ∀ (as : List Addr) (ps : List (V × V)) (H : Hp), as.length = ps.length → as.Nodup → ∀ (j : Nat) (a : Addr), as[j]? = some a → ∃ p, ps[j]? = some p ∧ putP H as ps a = some (.tup [p.1, p.2])
  | [], _, _, _, _, j, a, h => by simp at h
  | _ :: _, [], _, h, _, _, _, _ => by cases h
  | b :: as, p :: ps, H, hl, hn, j, a, h => by
    have hn' := List.nodup_cons.mp hn
    cases j with
    | zero =>
      have e : b = a := by simpa using h
      subst e
      refine ⟨p, rfl, ?_⟩
      show putP (upd H b (.tup [p.1, p.2])) as ps b = _
      rw [putP_off as ps _ hn'.1, upd_same]
    | succ j => exact putP_at as ps (upd H b (.tup [p.1, p.2])) (Nat.succ.inj hl) hn'.2 j a (by simpa using h)
def tLZ (K : PySem.W.Frag) (ta : TA) : TE := fun σ H Q => ta σ H fun vs H1 => ∃ (a b : Addr) (xs ys : List V), vs = [.ref a, .ref b] ∧ (SqL K H1 a xs ∨ SqT K H1 a xs) ∧ (SqL K H1 b ys ∨ SqT K H1 b ys) ∧ xs.length = ys.length ∧
  ∀ (H' : Hp) (D : Addr) (ts : List Addr), Fr c0 H1 H' → H1 D = none → H' D = some (.lst (ts.map V.ref)) → ts.length = xs.length →
    (∀ (j : Nat) (t : Addr), ts[j]? = some t → H1 t = none ∧ t ≠ D ∧ ∃ x y, xs[j]? = some x ∧ ys[j]? = some y ∧ H' t = some (.tup [x, y])) → Q (.ref D) H'
section
variable {X : Cx} {e e2 : Expr} {ta : TA} {p p2 pos pos2 : Pos}
theorem zip_src {pins : List (Addr × Obj)} {σ : L2.St} {H : Hp} {s : Shared} {a : Addr} {xs : List V} (I : Inv X pins σ H s) (hd : X.A.handled = none) (h : SqL X.K H a xs ∨ SqT X.K H a xs) :
    ∃ (its : List Value) (o : Obj) (Hb : Heap → Prop), Vals xs its ∧ xs.length ≤ sizeLine ∧ a < s.heap.objs.size ∧ Begins (.ref a) o Hb ∧ Hb s.heap ∧
      ∀ it, a ≠ it → ∃ St : Nat → Heap → Prop, Draws X.prog X.w X.A.in1.in1.in1 it [it, a] its.length (fun i v => its[i]? = some v) St ∧ ∀ h', (∀ b o, s.heap.get? b = some o → h'.get? b = some o) → h'.get? it = some o → St 0 h' := by
  rcases h with h | h
  · obtain ⟨its, rv, p, hz⟩ := I.list h
    refine ⟨its, _, _, rv, hz, p.lt, begins_list a its.toArray, p.isList, fun it hit => ⟨fun i h => h.IsListIter it a i ∧ h.IsList a its.toArray, ?_, fun h' k e => ⟨⟨_, e, rfl, rfl⟩, p.isList.at fun o q => k a o q⟩⟩⟩
    have D := Draws.list (prog := X.prog) (w := X.w) (A := X.A.in1.in1.in1) hd it a hit its.toArray
    simpa using D
  · obtain ⟨its, rv, p, hz⟩ := I.tuple h
    have ht : s.heap.IsTuple a its.toArray := p
    obtain ⟨o1, ho1, _⟩ := id p
    refine ⟨its, _, _, rv, hz, Heap.lt_size ho1, begins_tuple a its.toArray, ht, fun it hit => ⟨fun i h => h.IsTupleIter it a i ∧ h.IsTuple a its.toArray, ?_, fun h' k e => ⟨⟨_, e, rfl, rfl⟩, ht.at fun o q => k a o q⟩⟩⟩
    have D := Draws.tuple (prog := X.prog) (w := X.w) (A := X.A.in1.in1.in1) hd it a hit its.toArray
    simpa using D
theorem pairs_laid {pins : List (Addr × Obj)} {σ : L2.St} {H : Hp} {s : Shared} {h' : Heap} {tk L : Nat} {xs ys : List V} {us vs : List Value} {acc : Array Value} {c : Nat} {as : List Addr} (I : Inv X pins σ H s) (hz : xs.length ≤ sizeLine) (rx : Vals xs us) (ry : Vals ys vs)
    (hxy : xs.length = ys.length) (hL : s.heap.objs.size ≤ L) (hk : ∀ b o, s.heap.get? b = some o → h'.get? b = some o) (hS : h'.get? L = some { cls := .type "list", dict := none, data := .seq acc c, slots := #[] }) (hl : as.length = us.length)
    (hG : ZG (fun i v => us[i]? = some v) (fun i v => vs[i]? = some v) L h' as) (hacc : acc.toList = as.map Value.ref) :
    ∃ H' : Hp, Fr c0 H H' ∧ H L = none ∧ H' L = some (.lst (as.map V.ref)) ∧ (∀ (j : Nat) (t : Addr), as[j]? = some t → H t = none ∧ t ≠ L ∧ ∃ x y, xs[j]? = some x ∧ ys[j]? = some y ∧ H' t = some (.tup [x, y])) ∧ Inv X pins σ H' { s with heap := h', toks := tk } := by
  have lx := rx.length
  have ly := ry.length
  have hSn : L ∉ as := fun z => Nat.lt_irrefl _ (hG.above _ z)
  have nd : as.Nodup := List.Pairwise.imp (fun {a b} (h : a < b) => Nat.ne_of_lt h) hG.rise
  have new : ∀ t ∈ as, H t = none := fun t ht => I.hok.fresh (Nat.le_trans hL (Nat.le_of_lt (hG.above t ht)))
  have newS : H L = none := I.hok.fresh hL
  have lz : (xs.zip ys).length = xs.length := by rw [List.length_zip]; omega
  have atP := putP_at as (xs.zip ys) (upd H L (.lst (as.map V.ref))) (by omega) nd
  have off : ∀ b, b ∉ as → b ≠ L → putP (upd H L (.lst (as.map V.ref))) as (xs.zip ys) b = H b := fun b h1 h2 => by rw [putP_off as _ _ h1, upd_ne h2]
  have low : ∀ b o, s.heap.get? b = some o → b ∉ as ∧ b ≠ L := fun b o e => ⟨fun z => absurd (Heap.lt_size e) (Nat.not_lt.mpr (Nat.le_trans hL (Nat.le_of_lt (hG.above b z)))), Nat.ne_of_lt (Nat.lt_of_lt_of_le (Heap.lt_size e) hL)⟩
  have kp : ∀ b u, H b = some u → (putP (upd H L (.lst (as.map V.ref))) as (xs.zip ys)) b = some u := fun b u e => by
    rw [off b (fun z => by rw [new b z] at e; cases e) (fun z => by rw [z, newS] at e; cases e)]
    exact e
  have eS : putP (upd H L (.lst (as.map V.ref))) as (xs.zip ys) L = some (.lst (as.map V.ref)) := by rw [putP_off as _ _ hSn, upd_same]
  have pr : ∀ (j : Nat) (t : Addr), as[j]? = some t → ∃ x y, xs[j]? = some x ∧ ys[j]? = some y ∧ putP (upd H L (.lst (as.map V.ref))) as (xs.zip ys) t = some (.tup [x, y]) := fun j t e => by
    obtain ⟨⟨x, y⟩, h1, h2⟩ := atP j t e
    rw [List.getElem?_zip_eq_some] at h1
    exact ⟨x, y, h1.1, h1.2, h2⟩
  refine ⟨putP (upd H L (.lst (as.map V.ref))) as (xs.zip ys), ⟨fun b o e _ => kp b o e, fun b e => ?_⟩, newS, eS, fun j t e => ⟨new t (List.mem_of_getElem? e), fun z => hSn (z ▸ List.mem_of_getElem? e), pr j t e⟩, ?_⟩
  · cases q : H b with
    | none => rfl
    | some o => rw [kp b o q] at e; cases e
  refine I.call' (ch := []) rfl ⟨fun b o q _ _ _ => hk b o q, fun b o q _ _ _ => ⟨o.slots, hk b o q⟩, fun b o q n _ => ?_, fun b o q _ => ⟨o, hk b o q⟩, fun b xs q => kp b _ q, fun b o u q => kp b _ q, fun b ps q => ⟨#[], by rw [kp b _ q]; simp⟩⟩ (fun b u q => ?_) I.bare fun b z => by simp at z
  · obtain ⟨z1, z2⟩ := low b o q
    rw [off b z1 z2]
    exact n
  · by_cases hb : b ∈ as
    · obtain ⟨j, hj⟩ := List.getElem?_of_mem hb
      obtain ⟨x, y, e1, e2, e3⟩ := pr j b hj
      rw [e3] at q
      cases q
      obtain ⟨u1, u2, f1, f2, f3⟩ := hG.pairs j b hj
      obtain ⟨v1, g1, r1⟩ := rx.get e1
      obtain ⟨v2, g2, r2⟩ := ry.get e2
      rw [f1] at g1; rw [f2] at g2
      cases g1; cases g2
      exact ⟨by show 2 ≤ sizeLine; decide, [u1, u2], .cons r1 (.cons r2 .nil), ⟨_, f3, rfl, _, rfl⟩⟩
    · by_cases hb2 : b = L
      · rw [hb2] at q ⊢
        rw [eS] at q
        cases q
        refine ⟨by rw [List.length_map]; omega, acc.toList, c, by rw [hacc]; exact LiI.vals_refs as, ?_⟩
        rw [Array.toArray_toList]
        exact hS
      · rw [off b hb hb2] at q
        exact (I.hok b u q).stay (fun d v _ y => hk d v y) (fun d y => kp d _ y) fun d xs y => kp d _ y
theorem pe_listZip (hc : X.calm = true) (hg : Gl X "list") (hm : X.mg "list" = none) (hgz : Gl X "zip") (hmz : X.mg "zip" = none) (ha : PA X [e, e2] ta)
    (hs : starEach [.Call (.Name "zip" p2) [e, e2] [] pos2] X.env = (false, eval (.Call (.Name "zip" p2) [e, e2] [] pos2) X.env) :: starEach [] X.env := by rfl)
    (hs2 : starEach [e, e2] X.env = (false, eval e X.env) :: starEach [e2] X.env := by rfl) (hpl : (backTo pos2 (starEach [e2] X.env)).any (·.1) = false := by rfl) :
    PE X (.Call (.Name "list" p) [.Call (.Name "zip" p2) [e, e2] [] pos2] [] pos) (tLZ X.K ta) := by
  refine ⟨fun pins s σ H Q I h => ?_⟩
  refine wpAny_Call_Name_kw (ld_blt I hg hm PyProof.Rows.boot_list ?_)
  refine PyProof.Rows.callWith_type1 ?_ hs rfl
  rw [hs]
  show wpAny _ _ (spliced ((false, eval (.Call (.Name "zip" p2) [e, e2] [] pos2) X.env) :: backTo pos (starEach [] X.env))) _ _ s
  refine Calls.spliced_cons ?_
  refine Call_ (ld_blt I hgz hmz PyProof.Rows.boot_zip (PyProof.Rows.callWith_type1 (thn (ha.run pos2 pins s σ H _ I h) fun us s1 ⟨vs, H1, I1, r1, q1⟩ => ?_) hs2 hpl))
  obtain ⟨a, b, xs, ys, ex, hqx, hqy, hlen, q⟩ := q1
  subst ex
  cases r1 with
  | cons r rr =>
    cases rr with
    | cons r' rr =>
      cases rr
      cases r
      cases r'
      have hd := I1.ok.hd hc
      obtain ⟨us, o1, Hb1, rv1, hz1, la, B1, hb1, D1⟩ := zip_src I1 hd hqx
      obtain ⟨ws, o2, Hb2, rv2, hz2, lb, B2, hb2, D2⟩ := zip_src I1 hd hqy
      refine zip_begins2 B1 B2 hb1 hb2 fun h1 z1 z2 z3 z4 z5 hsz hk1 => ?_
      refine Calls.spliced_nil ?_
      obtain ⟨St1, D1, st1⟩ := D1 s1.heap.objs.size (Nat.ne_of_lt la)
      obtain ⟨St2, D2, st2⟩ := D2 (s1.heap.objs.size + 1) (Nat.ne_of_lt (Nat.lt_succ_of_lt lb))
      have hlu : us.length = ws.length := by rw [← rv1.length, ← rv2.length, hlen]
      rw [← hlu] at D2
      have S := zip_sep2 (N := s1.heap.objs.size) (fp1 := [a]) (fp2 := [b]) (fun c hc => by rw [List.mem_singleton.mp hc]; exact la) (fun c hc => by rw [List.mem_singleton.mp hc]; exact lb)
      have I2 : Inv X pins σ H1 { s1 with heap := h1 } := I1.kept (t' := s1.toks) hk1
      have Z : ZLow (s1.heap.objs.size + 4) (s1.heap.objs.size + 2) (s1.heap.objs.size + 3) s1.heap.objs.size (s1.heap.objs.size + 1) h1.objs.size [s1.heap.objs.size, a] [s1.heap.objs.size + 1, b] := by
        have l1 : a < s1.heap.objs.size := la
        have l2 : b < s1.heap.objs.size := lb
        refine ⟨?_, ?_, ?_, ?_, ?_, fun c hc => ?_, fun c hc => ?_⟩
        · rw [hsz]; exact Nat.lt_succ_self _
        · rw [hsz]; exact Nat.add_lt_add_left (by decide) _
        · rw [hsz]; exact Nat.add_lt_add_left (by decide) _
        · rw [hsz]; exact Nat.lt_add_of_pos_right (by decide)
        · rw [hsz]; exact Nat.add_lt_add_left (by decide) _
        · rw [hsz]
          rcases List.mem_cons.mp hc with e | e
          · rw [e]; exact Nat.lt_add_of_pos_right (by decide)
          · rw [List.mem_singleton.mp e]; exact Nat.lt_trans l1 (Nat.lt_add_of_pos_right (by decide))
        · rw [hsz]
          rcases List.mem_cons.mp hc with e | e
          · rw [e]; exact Nat.add_lt_add_left (by decide) _
          · rw [List.mem_singleton.mp e]; exact Nat.lt_trans l2 (Nat.lt_add_of_pos_right (by decide))
      refine z_call (s := { s1 with heap := h1 }) (A := X.A) S D1 D2 Z (by rw [← rv1.length]; exact hz1) z2 ⟨_, _, z3⟩ (st1 h1 hk1 z4) (st2 h1 hk1 z5) z1 fun h2 tk acc c as hk hS hl hG hacc => ?_
      have hk2 : ∀ b o, s1.heap.get? b = some o → h2.get? b = some o := fun b o e => by
        have lt : b < s1.heap.objs.size := Heap.lt_size e
        have ne : ∀ k, b ≠ s1.heap.objs.size + k := fun k => Nat.ne_of_lt (Nat.lt_of_lt_of_le lt (Nat.le_add_right _ k))
        exact hk b o (ne 4) (ne 3) (ne 0) (ne 1) (hk1 b o e)
      obtain ⟨H', f, n, e1, e2, J⟩ := pairs_laid (tk := tk) I1 hz1 rv1 rv2 hlen (by rw [hsz]; exact Nat.le_add_right _ _) hk2 hS hl hG hacc
      refine ⟨.ref _, H', J, rfl, q H' _ as f n e1 ?_ e2⟩
      rw [hl, ← rv1.length]
end
end BNZ
namespace BN
open PySem L2 PyProof.Rows
/-! ### comprehensions whose turns change what is told -/
structure LcK (K : PySem.W.Frag) (C : CP) (I : Nat → Hp → Prop) (D : Addr) (H1 : Hp) (Good : Nat → PyData → Prop) (i : Nat) (H' : Hp) : Prop where
  ex : ∃ (vs : List V) (ds : List PyData), H' D = some (.lst vs) ∧ DpAll K H' vs ds ∧ ds.length = i ∧ (∀ k d, ds[k]? = some d → Good k d ∧ tupD d = true) ∧ Fr C H1 H' ∧ I i H'
section
variable {K : PySem.W.Frag} {C : CP} {I : Nat → Hp → Prop} {D : Addr} {H1 H' H'' : Hp} {Good : Nat → PyData → Prop} {i n : Nat}
theorem LcK.step (hI : ∀ i H' D ys, H1 D = none → Fr (fun a _ => a = D) H' (upd H' D (.lst ys)) → I i H' → I i (upd H' D (.lst ys))) (hC : ∀ D o, H1 D = none → ¬ C D o) (hD : H1 D = none) (hi : i < 100000) (L : LcK K C I D H1 Good i H') {d : PyData} {y : V} (g : Good i d) (t : tupD d = true) (hd : Dp K H'' y d) (f : Fr C H' H'') (h : I (i + 1) H'') :
    ∃ acc, H'' D = some (.lst acc) ∧ acc.length < sizeLine ∧ LcK K C I D H1 Good (i + 1) (upd H'' D (.lst (acc ++ [y]))) := by
  obtain ⟨vs, ds, e, da, dl, dg, df, dI⟩ := L.ex
  have e2 := f.at e (hC D _ hD)
  have dt : tupDs ds = true := tupDs_all fun x hx => by
    obtain ⟨k, hk⟩ := List.getElem?_of_mem hx
    exact (dg k x hk).2
  have f2 : Fr (fun a _ => a = D) H'' (upd H'' D (.lst (vs ++ [y]))) := Fr.set e2 rfl trivial
  refine ⟨vs, e2, ?_, vs ++ [y], ds ++ [d], upd_same, ?_, ?_, ?_, (df.trans f).fresh hD, hI _ _ _ _ hD f2 h⟩
  · rw [da.len, dl]
    exact Nat.lt_of_lt_of_le hi (by rw [sizeLine_eq]; decide)
  · exact (Dp.frs f2 _ _ dt (Dp.frs f _ _ dt da)).append (.cons (Dp.fr f2 _ _ t hd) .nil)
  · rw [List.length_append, dl]; rfl
  · intro k x hk
    by_cases hlt : k < ds.length
    · rw [List.getElem?_append_left hlt] at hk
      exact dg k x hk
    · rw [List.getElem?_append_right (by omega)] at hk
      have : k - ds.length = 0 := by
        cases q : k - ds.length with
        | zero => rfl
        | succ m => rw [q] at hk; simp at hk
      rw [this] at hk
      have e : d = x := by simpa using hk
      subst e
      have : k = i := by omega
      subst this
      exact ⟨g, t⟩
def LkQ (K : PySem.W.Frag) (C : CP) (I : Nat → Hp → Prop) (H1 : Hp) (Good : Nat → PyData → Prop) (n : Nat) (Q : Addr → Hp → Prop) : Prop :=
  ∀ D vs ds H', H1 D = none → H' D = some (.lst vs) → DpAll K H' vs ds → ds.length = n → (∀ k d, ds[k]? = some d → Good k d ∧ tupD d = true) → Fr C H1 H' → I n H' → Q D H'
def LkE (K : PySem.W.Frag) (C : CP) (I : Nat → Hp → Prop) (H1 : Hp) (Good : Nat → PyData → Prop) (i : Nat) (te : TE) (σ : L2.St) : Prop :=
  ∀ H', Fr C H1 H' → I i H' → ∀ Q : VK, (∀ d v H'', Good i d → tupD d = true → Dp K H'' v d → Fr C H' H'' → I (i + 1) H'' → Q v H'') → te σ H' Q
variable {te : TE} {σ : L2.St} {j : Nat} {Q : Addr → Hp → Prop}
theorem lcJ_tup {a : Addr} {xs : List V} (hx : SqT K H1 a xs) (hI : ∀ i H' D ys, H1 D = none → Fr (fun a _ => a = D) H' (upd H' D (.lst ys)) → I i H' → I i (upd H' D (.lst ys))) (hC : ∀ D o, H1 D = none → ¬ C D o) (h0 : I 0 H1) (hn : xs.length ≤ 100000)
    (hte : ∀ i x, xs[i]? = some x → LkE K C I H1 Good i te ((wipe σ [j]).set j (some x))) (hq : LkQ K C I H1 Good xs.length Q) : ∀ D, H1 D = none →
    ∃ W : Nat → Nat → Hp → Prop, (∃ m, W 0 m (upd H1 D (.lst []))) ∧ ∀ i m H, W i m H →
      ((Itt K a).stop i H ∧ Q D H) ∨ ((Itt K a).go i H ∧ ∃ Nx : Hp → Prop, (∀ H', Nx H' → ∃ m', m' < m ∧ W (i + 1) m' H') ∧ ∀ x H', (Itt K a).yld i H x H' → gName j x (wipe σ [j]) H' fun σ2 H2 => wipe σ2 [j] = wipe σ [j] ∧ tYes σ2 H2 fun b H3 =>
        if b = true then te σ2 H3 fun y H4 => ∃ acc, H4 D = some (.lst acc) ∧ acc.length < sizeLine ∧ Nx (upd H4 D (.lst (acc ++ [y]))) else Nx H3) := fun D hD => by
  refine lc_tup (K := K) (a := a) (xs := xs) (Qd := fun H => Q D H) (LcK K C I D H1 Good) ⟨[], [], upd_same, .nil, rfl, fun k d h => by simp at h, Fr.new hD, hI _ _ _ _ hD (Fr.new hD) h0⟩ (fun i H' _ L => by
    obtain ⟨vs, ds, e, da, dl, dg, df, dI⟩ := L.ex
    exact df.sqT hx) (fun i x H' hi L => ⟨wipe1 _ _ _, ?_⟩) fun H' L => ?_
  · obtain ⟨vs, ds, e, da, dl, dg, df, dI⟩ := L.ex
    have := at_lt hi
    exact hte i x hi H' df dI _ fun d v H'' g t hd f h => LcK.step hI hC hD (by omega) L g t hd f h
  · obtain ⟨vs, ds, e, da, dl, dg, df, dI⟩ := L.ex
    exact hq D vs ds H' hD e da dl dg df dI
end
abbrev rDictP (K : PySem.W.Frag) : List V → Hp → VK → Prop := fun xs H Q => ∃ (a : Addr) (ps : List Addr) (kvs : List (Key × V)), xs = [.ref a] ∧ SqL K H a (ps.map V.ref) ∧ Paired (fun p kv => SqT K H p [kV kv.1, kv.2]) ps kvs ∧ ∀ p, H p = none → Q (.ref p) (upd H p (.dK (mergeK [] kvs)))
/-! ### rooms, piles, functions on the heap -/
def roomK (r : Room) : List (Key × V) := r.map fun e => (Sum.inr e.1, .int e.2)
theorem valV_room (x : Str) : ∀ r : Room, valV (roomK r) (Sum.inr x) = (r.lookup x).map V.int
  | [] => rfl
  | (y, n) :: r => by
    unfold roomK
    rw [List.map_cons]
    by_cases e : x = y
    · subst e; rw [valV_pos rfl]; simp [List.lookup]
    · rw [valV_neg (by simpa using fun z => e z.symm)]
      have q : (x == y) = false := by simpa using e
      simp only [List.lookup, q]
      exact valV_room x r
theorem merge_room : ∀ (r acc : Room), ((acc ++ r).map (·.1)).Nodup → mergeK (roomK acc) (roomK r) = roomK (acc ++ r)
  | [], acc, _ => by simp [roomK, mergeK]
  | (x, n) :: r, acc, h => by
    have hx : valV (roomK acc) (Sum.inr x) = none := by
      rw [valV_room]
      cases q : acc.lookup x with
      | none => rfl
      | some m =>
        exfalso
        have hm : x ∈ acc.map (·.1) := by
          clear h
          induction acc with
          | nil => simp at q
          | cons b t ih =>
            by_cases e : x = b.1
            · rw [e]; simp
            · have q' : (x == b.1) = false := by simpa using e
              obtain ⟨b1, b2⟩ := b
              simp only [List.lookup, q'] at q
              exact List.mem_cons_of_mem _ (ih q)
        rw [List.map_append] at h
        exact (List.nodup_append.mp h).2.2 x hm x (by simp) rfl
    have e1 : mergeK (roomK acc) (roomK ((x, n) :: r)) = mergeK (putK (roomK acc) (Sum.inr x) (.int n)) (roomK r) := rfl
    have e2 : roomK acc ++ [(Sum.inr x, V.int n)] = roomK (acc ++ [(x, n)]) := by simp [roomK]
    rw [e1, putK_new _ hx, e2, merge_room r (acc ++ [(x, n)]) (by simpa using h)]
    simp
theorem zip_fst : ∀ (ps : List Str) (vs : List Int), ps.length = vs.length → (ps.zip vs).map (·.1) = ps
  | [], _, _ => by simp
  | p :: ps, [], h => by simp at h
  | p :: ps, v :: vs, h => by simp [zip_fst ps vs (by simpa using h)]
theorem merge_zip {ps : List Str} {vs : List Int} (hn : ps.Nodup) (hl : ps.length = vs.length) : mergeK [] (roomK (ps.zip vs)) = roomK (ps.zip vs) := by
  have := merge_room (ps.zip vs) [] (by rw [List.nil_append, zip_fst _ _ hl]; exact hn)
  simpa [roomK] using this
/-- what may be written: two lists -/
def cT (a b : Addr) : CP := fun c o => (c = a ∨ c = b) ∧ ∃ xs, o = .lst xs
theorem cT_dK {a b c : Addr} {kvs : List (Key × V)} : ¬ cT a b c (.dK kvs) := fun z => by obtain ⟨_, xs, e⟩ := z; cases e
theorem cT_ins {a b c C dx : Addr} {fs : List (Str × V)} : ¬ cT a b c (.ins C dx fs) := fun z => by obtain ⟨_, xs, e⟩ := z; cases e
/-- how a pile stands: as a tuple, as a list -/
abbrev PS' := Hp → Addr → List V → Prop
def PStay (S : PS') (C : CP) : Prop := ∀ H H' a xs, Fr C H H' → S H a xs → S H' a xs
structure PileAt (S : PS') (H : Hp) (a : Addr) (P : List Room) : Prop where
  ex : ∃ ds : List Addr, S H a (ds.map V.ref) ∧ ds.length = P.length ∧ ∀ (k : Nat) (d : Addr) (r : Room), ds[k]? = some d → P[k]? = some r → H d = some (.dK (roomK r))
def FunsAt (S : PS') (K : PySem.W.Frag) (H : Hp) : Addr → List Fn → Prop
  | a, [] => H a = some (.dK [])
  | a, e :: t => ∃ (kn tt tp ph : Addr) (vb : V) (kvs : List (Key × V)), FunsAt S K H kn t ∧ H kn = some (.dK kvs) ∧ H a = some (.dK (putK kvs (Sum.inr e.f) (.ref tt))) ∧ SqT K H tt [.ref tp, vb, .ref ph, .ref kn] ∧ SqT K H tp (e.ps.map V.str) ∧ Dp K H vb e.b.enc ∧ PileAt S H ph e.home
section
variable {S : PS'} {K : PySem.W.Frag} {H H' : Hp} {C : CP}
theorem PileAt.fr {a : Addr} {P : List Room} (hS : PStay S C) (hC : ∀ c kvs, ¬ C c (.dK kvs)) (f : Fr C H H') (h : PileAt S H a P) : PileAt S H' a P := by
  obtain ⟨ds, h1, h2, h3⟩ := h.ex
  exact ⟨ds, hS _ _ _ _ f h1, h2, fun k d r e1 e2 => f.at (h3 k d r e1 e2) (hC _ _)⟩
theorem FunsAt.fr (hS : PStay S C) (hC : ∀ c kvs, ¬ C c (.dK kvs)) (f : Fr C H H') : ∀ {fe : List Fn} {a : Addr}, FunsAt S K H a fe → FunsAt S K H' a fe
  | [], a, h => f.at (show H a = some (.dK []) from h) (hC _ _)
  | e :: t, a, h => by
    obtain ⟨kn, tt, tp, ph, vb, kvs, h1, h2, h3, h4, h5, h6, h7⟩ := h
    exact ⟨kn, tt, tp, ph, vb, kvs, FunsAt.fr hS hC f h1, f.at h2 (hC _ _), f.at h3 (hC _ _), f.sqT h4, f.sqT h5, Dp.fr f _ _ (tup_enc _) h6, h7.fr hS hC f⟩
theorem FunsAt.dict : ∀ {fe : List Fn} {a : Addr}, FunsAt S K H a fe → ∃ kvs, H a = some (.dK kvs) ∧ kvs.length ≤ fe.length
  | [], a, h => ⟨[], h, Nat.le_refl _⟩
  | e :: t, a, h => by
    obtain ⟨kn, tt, tp, ph, vb, kvs, h1, h2, h3, _⟩ := h
    obtain ⟨kvs', g1, g2⟩ := FunsAt.dict h1
    rw [h2] at g1
    cases g1
    have := putK_le kvs (Sum.inr e.f) (.ref tt)
    exact ⟨_, h3, by rw [List.length_cons]; omega⟩
theorem FunsAt.get : ∀ {l : List Fn} {e : Fn} {t : List Fn} {a : Addr}, FunsAt S K H a (l ++ e :: t) → (∀ x ∈ l, x.f ≠ e.f) → ∃ (kvs : List (Key × V)) (kn tt tp ph : Addr) (vb : V), H a = some (.dK kvs) ∧ valV kvs (Sum.inr e.f) = some (.ref tt) ∧ FunsAt S K H kn t ∧
    SqT K H tt [.ref tp, vb, .ref ph, .ref kn] ∧ SqT K H tp (e.ps.map V.str) ∧ Dp K H vb e.b.enc ∧ PileAt S H ph e.home
  | [], e, t, a, h, _ => by
    obtain ⟨kn, tt, tp, ph, vb, kvs, h1, h2, h3, h4, h5, h6, h7⟩ := h
    exact ⟨_, kn, tt, tp, ph, vb, h3, by rw [valV_put, if_pos rfl], h1, h4, h5, h6, h7⟩
  | x :: l, e, t, a, h, hl => by
    obtain ⟨kn, tt, tp, ph, vb, kvs, h1, h2, h3, h4, h5, h6, h7⟩ := h
    obtain ⟨kvs', kn', tt', tp', ph', vb', g1, g2, g3⟩ := FunsAt.get h1 fun y hy => hl y (List.mem_cons_of_mem _ hy)
    rw [h2] at g1
    cases g1
    refine ⟨_, kn', tt', tp', ph', vb', h3, ?_, g3⟩
    rw [valV_put, if_neg (by simpa using fun z => hl x (List.mem_cons_self ..) z.symm)]
    exact g2
end
/-! ### what is told: readings, numbers said -/
def encRow (r : Row) : PyData := .tuple [.str r.1, .int (r.2.1 : Int), .int r.2.2]
theorem tup_rows (l : List Row) : tupDs (l.map encRow) = true := tupDs_all fun d hd => by
  obtain ⟨x, _, rfl⟩ := List.mem_map.mp hd
  simp [encRow, tupD, tupDs]
structure TAt (K : PySem.W.Frag) (H : Hp) (r1 r2 : Addr) (rows : List Row) (said : List Int) : Prop where
  ne : r1 ≠ r2
  rw : ∃ rv, H r1 = some (.lst rv) ∧ DpAll K H rv (rows.map encRow)
  sd : H r2 = some (.lst (said.map V.int))
theorem TAt.fr {K : PySem.W.Frag} {H H' : Hp} {r1 r2 : Addr} {rows : List Row} {said : List Int} (T : TAt K H r1 r2 rows said) (f : Fr c0 H H') : TAt K H' r1 r2 rows said := by
  obtain ⟨rv, h1, h2⟩ := T.rw
  exact ⟨T.ne, ⟨rv, f.at h1 (fun z => z), Dp.frs f _ _ (tup_rows _) h2⟩, f.at T.sd (fun z => z)⟩
theorem TAt.new {K : PySem.W.Frag} {H : Hp} {r1 r2 : Addr} {rows : List Row} {said : List Int} {D : Addr} {o : HO} (T : TAt K H r1 r2 rows said) (h1 : D ≠ r1) (h2 : D ≠ r2) (f : Fr (fun a _ => a = D) H (upd H D o)) : TAt K (upd H D o) r1 r2 rows said := by
  obtain ⟨rv, g1, g2⟩ := T.rw
  exact ⟨T.ne, ⟨rv, by rw [upd_ne h1.symm]; exact g1, Dp.frs f _ _ (tup_rows _) g2⟩, by rw [upd_ne h2.symm]; exact T.sd⟩
end BN
namespace BN
open PySem L2 PyProof.Rows
/-! ### the program's Rooms: made, read -/
def flR (b : Bool) (r s : Addr) : List (Str × V) := [("is_near", .bl b), ("rows", .ref r), ("said", .ref s)]
theorem flR2 (b r : V) : putF "rows" r [(("is_near" : Str), b)] = [(("is_near" : Str), b), ("rows", r)] := by
  show (if ("is_near" : Str) = "rows" then _ else _) = _
  rw [if_neg (by decide +kernel)]; rfl
theorem flR3 (b r s : V) : putF "said" s [(("is_near" : Str), b), ("rows", r)] = [(("is_near" : Str), b), ("rows", r), ("said", s)] := by
  show (if ("is_near" : Str) = "said" then _ else (("is_near" : Str), b) :: (if ("rows" : Str) = "said" then _ else _)) = _
  rw [if_neg (by decide +kernel), if_neg (by decide +kernel)]; rfl
theorem flR_near (b : Bool) (r s : Addr) : (flR b r s).lookup ("is_near" : Str) = some (.bl b) := by simp [flR, List.lookup]
theorem flR_rows (b : Bool) (r s : Addr) : (flR b r s).lookup ("rows" : Str) = some (.ref r) := by
  have e : (("rows" : Str) == "is_near") = false := by decide +kernel
  simp [flR, List.lookup, e]
theorem flR_said (b : Bool) (r s : Addr) : (flR b r s).lookup ("said" : Str) = some (.ref s) := by
  have e : (("said" : Str) == "is_near") = false := by decide +kernel
  have e2 : (("said" : Str) == "rows") = false := by decide +kernel
  simp [flR, List.lookup, e, e2]
theorem flR_no (b : Bool) (r s : Addr) {m : Str} (h1 : (m == ("is_near" : Str)) = false) (h2 : (m == ("rows" : Str)) = false) (h3 : (m == ("said" : Str)) = false) : (flR b r s).lookup m = none := by
  simp only [flR, List.lookup, h1, h2, h3]
theorem Fr.setO {p C dx : Addr} {fs : List (Str × V)} {H : Hp} {o' : HO} (hp : H p = some (.ins C dx fs)) : Fr (cI p) H (upd H p o') := Fr.setI hp trivial
structure RmsC (K : PySem.W.Frag) (C : Addr) : Prop where
  cl : Cls K C
  nN : NoAttr K C "is_near"
  nR : NoAttr K C "rows"
  nS : NoAttr K C "said"
def spRmInit (C : Addr) : Sp := fun vs H Q _ => ∃ (p dx : Addr) (me : Str), vs = [.ref p, .str me] ∧ H p = some (.ins C dx []) ∧
  ∀ (ar sa : Addr) (H' : Hp), H ar = none → H sa = none → ar ≠ sa → Fr (cI p) H H' → H' p = some (.ins C dx (flR (decide (me = "near")) ar sa)) → H' ar = some (.lst []) → H' sa = some (.lst []) → Q .non H'
def t_rinit (K : PySem.W.Frag) : TS :=
  (tSeq (sFld K (tVar 0) (tOp rEq (tVar 1) (tC (.str "near"))) "is_near")
    (tSeq (sFld K (tVar 0) (tLst tNil) "rows")
    (sFld K (tVar 0) (tLst tNil) "said")))
theorem pure_rinit {K : PySem.W.Frag} {C : Addr} (T : RmsC K C) (vs : List V) (H : Hp) (Q : VK) (E : XK) (h : spRmInit C vs H Q E) : t_rinit K { nx := fun _ H' => Q .non H', rt := Q } (start ["self", "meaning"] vs) H := by
  obtain ⟨p, dx, me, rfl, hp, k⟩ := h
  refine ⟨_, rfl, rfl, _, rfl, p, C, dx, [], rfl, hp, T.cl, T.nN, (by show 0 < 1000; decide), ?_⟩
  have eb : decide (V.str me = V.str "near") = decide (me = "near") := decide_eq_decide.mpr ⟨fun z => V.str.inj z, fun z => by rw [z]⟩
  rw [eb]
  have f1 : Fr (cI p) H (upd H p (.ins C dx (putF "is_near" (.bl (decide (me = "near"))) []))) := Fr.setI hp trivial
  refine ⟨one_sz (Nat.zero_le _), fun ar har => ?_⟩
  have npa : p ≠ ar := ne_of_none upd_same har
  refine ⟨_, rfl, p, C, dx, _, rfl, (by rw [upd_ne npa]; exact upd_same), T.cl, T.nR, (by show 1 < 1000; decide), ?_⟩
  rw [show putF "is_near" (V.bl (decide (me = "near"))) [] = [(("is_near" : Str), V.bl (decide (me = "near")))] from rfl, flR2]
  rw [show putF "is_near" (V.bl (decide (me = "near"))) [] = [(("is_near" : Str), V.bl (decide (me = "near")))] from rfl] at f1 har
  generalize hH1 : (upd H p (.ins C dx [(("is_near" : Str), V.bl (decide (me = "near")))])) = H1 at f1 har ⊢
  have hp1 : H1 p = some (.ins C dx [(("is_near" : Str), V.bl (decide (me = "near")))]) := by rw [← hH1]; exact upd_same
  have f2 : Fr (cI p) H1 (upd (upd H1 ar (.lst [])) p (.ins C dx [("is_near", .bl (decide (me = "near"))), ("rows", .ref ar)])) :=
    (Fr.new har).trans (Fr.setO (by rw [upd_ne npa]; exact hp1))
  have hp2 : (upd (upd H1 ar (.lst [])) p (.ins C dx [("is_near", .bl (decide (me = "near"))), ("rows", .ref ar)])) p = some (.ins C dx [("is_near", .bl (decide (me = "near"))), ("rows", .ref ar)]) := upd_same
  have ha2 : (upd (upd H1 ar (.lst [])) p (.ins C dx [("is_near", .bl (decide (me = "near"))), ("rows", .ref ar)])) ar = some (.lst []) := by rw [upd_ne npa.symm, upd_same]
  refine ⟨one_sz (Nat.zero_le _), fun sa hsa => ?_⟩
  have nps : p ≠ sa := ne_of_none upd_same hsa
  generalize (upd (upd H1 ar (.lst [])) p (.ins C dx [("is_near", .bl (decide (me = "near"))), ("rows", .ref ar)])) = H2 at f2 hp2 ha2 hsa ⊢
  have nas : ar ≠ sa := ne_of_none ha2 hsa
  refine ⟨_, rfl, p, C, dx, _, rfl, (by rw [upd_ne nps]; exact hp2), T.cl, T.nS, (by show 2 < 1000; decide), ?_⟩
  rw [flR3]
  refine k ar sa _ (f1.free _ har) ((f1.trans f2).free _ hsa) nas ((f1.trans f2).trans ((Fr.new hsa).trans (Fr.setO (by rw [upd_ne nps]; exact hp2)))) upd_same ?_ ?_
  · rw [upd_ne npa.symm, upd_ne nas]; exact ha2
  · rw [upd_ne nps.symm, upd_same]
/-! ### a reading -/
theorem rdR_lt {x : Str} : ∀ {l : List Room} {k : Nat}, k < (rdR l x).1 → ∃ r, l[k]? = some r ∧ r.lookup x = none
  | [], k, h => by simp [rdR] at h
  | r :: t, k, h => by
    cases e : r.lookup x with
    | some n => simp [rdR, e] at h
    | none =>
      cases k with
      | zero => exact ⟨r, rfl, e⟩
      | succ k =>
        have h' : k < (rdR t x).1 := by simpa [rdR, e] using h
        obtain ⟨r', h1, h2⟩ := rdR_lt (l := t) (k := k) h'
        exact ⟨r', by simpa using h1, h2⟩
theorem rdR_at {x : Str} : ∀ {l : List Room}, (∃ r ∈ l, (r.lookup x).isSome = true) → ∃ r, l[(rdR l x).1]? = some r ∧ r.lookup x = some (rdR l x).2
  | [], h => by obtain ⟨r, h, _⟩ := h; simp at h
  | r :: t, h => by
    cases e : r.lookup x with
    | some n => exact ⟨r, by simp [rdR, e], by simp [rdR, e]⟩
    | none =>
      obtain ⟨r', hr, h'⟩ := h
      have ht : r' ∈ t := by
        rcases List.mem_cons.mp hr with rfl | z
        · rw [e] at h'; simp at h'
        · exact z
      obtain ⟨r'', h1, h2⟩ := rdR_at (l := t) ⟨r', ht, h'⟩
      exact ⟨r'', by simpa [rdR, e] using h1, by simpa [rdR, e] using h2⟩
theorem rev_at {P : List Room} {k : Nat} {r : Room} (h : P.reverse[k]? = some r) : k < P.length ∧ P[P.length - 1 - k]? = some r := by
  have hk : k < P.length := by have := at_lt h; simpa using this
  refine ⟨hk, ?_⟩
  rw [List.getElem?_reverse hk] at h
  exact h
theorem rd_lt {P : List Room} {x : Str} {k : Nat} (h : k < (rd P x).1) : ∃ r, k < P.length ∧ P[P.length - 1 - k]? = some r ∧ r.lookup x = none := by
  obtain ⟨r, h1, h2⟩ := rdR_lt h
  have := rev_at h1
  exact ⟨r, this.1, this.2, h2⟩
theorem rd_at {P : List Room} {x : Str} (h : hasR P x) : ∃ r, (rd P x).1 < P.length ∧ P[P.length - 1 - (rd P x).1]? = some r ∧ r.lookup x = some (rd P x).2 := by
  obtain ⟨r0, hr, e⟩ := h
  obtain ⟨r, h1, h2⟩ := rdR_at (l := P.reverse) (x := x) ⟨r0, List.mem_reverse.mpr hr, e⟩
  have := rev_at h1
  exact ⟨r, this.1, this.2, h2⟩
theorem TAt.row {K : PySem.W.Frag} {H : Hp} {r1 r2 : Addr} {rows : List Row} {said : List Int} (T : TAt K H r1 r2 rows said) {t : Addr} {x : Str} {k : Nat} {n : Int} {rv : List V} (e : H r1 = some (.lst rv)) (ht : H t = some (.tup [.str x, .int (k : Int), .int n])) :
    TAt K (upd H r1 (.lst (rv ++ [.ref t]))) r1 r2 (rows ++ [(x, k, n)]) said := by
  obtain ⟨rv', h1, h2⟩ := T.rw
  rw [e] at h1; cases h1
  have f : Fr (cT r1 r2) H (upd H r1 (.lst (rv ++ [.ref t]))) := Fr.set e ⟨.inl rfl, _, rfl⟩ trivial
  have nt : t ≠ r1 := fun z => by rw [z, e] at ht; cases ht
  refine ⟨T.ne, ⟨_, upd_same, ?_⟩, by rw [upd_ne T.ne.symm]; exact T.sd⟩
  rw [List.map_append]
  refine (Dp.frs f _ _ (tup_rows _) h2).append (.cons ?_ .nil)
  exact .tup (SqT.of (by rw [upd_ne nt]; exact ht)) (.cons (.str _) (.cons (.int _) (.cons (.int _) .nil)))
def spRead (K : PySem.W.Frag) (C : Addr) : Sp := fun vs H Q _ => ∃ (p dx : Addr) (x : Str) (ap : Addr) (P : List Room) (ar sa : Addr) (near : Bool) (rows : List Row) (said : List Int), vs = [.ref p, .str x, .ref ap] ∧ H p = some (.ins C dx (flR near ar sa)) ∧
  TAt K H ar sa rows said ∧ PileAt (SqT K) H ap P ∧ hasR P x ∧ P.length ≤ 1000 ∧ rows.length < 16000000 ∧
  ∀ H', Fr (cT ar sa) H H' → TAt K H' ar sa (rows ++ [(x, (rd P x).1, (rd P x).2)]) said → Q (.int (rd P x).2) H'
def t_read (K : PySem.W.Frag) : TS :=
  (tSeq (tAsg (tC (.int 0)) (gName 3))
    (tSeq (tWhile (tB (tDNotIn (tVar 1) (tOp (rIxT K) (tVar 2) (tOp oSub (tOp oSub (tCB (rLenSq K) (tCons (tVar 2) tNil)) (tC (.int 1))) (tVar 3))))) (tAsg (tOp oAdd (tVar 3) (tC (.int 1))) (gName 3)))
    (tSeq (tAsg (tDGet (tOp (rIxT K) (tVar 2) (tOp oSub (tOp oSub (tCB (rLenSq K) (tCons (tVar 2) tNil)) (tC (.int 1))) (tVar 3))) (tVar 1)) (gName 4))
    (tSeq (tDrop (tBM K "list" rAppend (tFld K (tVar 0) "rows") (tCons (tTup (tCons (tVar 1) (tCons (tVar 3) (tCons (tVar 4) tNil)))) tNil)))
    (tRet (tVar 4))))))
theorem pure_read {K : PySem.W.Frag} {C : Addr} (T : RmsC K C) (vs : List V) (H : Hp) (Q : VK) (E : XK) (h : spRead K C vs H Q E) : t_read K { nx := fun _ H' => Q .non H', rt := Q } (start ["self", "name", "pile", "passed", "number"] vs) H := by
  obtain ⟨p, dx, x, ap, P, ar, sa, near, rows, said, rfl, hp, TA, PA, hx, hl, hn, k⟩ := h
  obtain ⟨ds, h1, h2, h3⟩ := PA.ex
  obtain ⟨r0, l0, a0, b0⟩ := rd_at hx
  have room : ∀ {j : Nat} {r : Room}, j < P.length → P[P.length - 1 - j]? = some r → ∃ d : Addr, atI (ds.map V.ref) (((ds.map V.ref).length : Int) - 1 - (j : Int)) = some (.ref d) ∧ H d = some (.dK (roomK r)) := fun {j r} hj e => by
    have lt : P.length - 1 - j < ds.length := by omega
    obtain ⟨d, hd⟩ := get_lt lt
    refine ⟨d, ?_, h3 _ d r hd e⟩
    have ei : (((ds.map V.ref).length : Nat) : Int) - 1 - (j : Int) = ((P.length - 1 - j : Nat) : Int) := by rw [List.length_map]; omega
    rw [ei]
    exact atI_nat (by rw [List.getElem?_map, hd]; rfl)
  refine ⟨fun m σ H' => ∃ j : Nat, σ = [some (.ref p), some (.str x), some (.ref ap), some (.int j), none] ∧ H' = H ∧ j + m = (rd P x).1, ⟨(rd P x).1, 0, rfl, rfl, Nat.zero_add _⟩, ?_⟩
  rintro m σ H' ⟨j, rfl, rfl, hj⟩
  by_cases hm : m = 0
  · subst hm
    have ej : j = (rd P x).1 := by omega
    subst ej
    obtain ⟨d, e1, e2⟩ := room l0 a0
    refine ⟨_, rfl, _, rfl, _, rfl, ap, _, rfl, .inr h1, _, _, rfl, rfl, _, rfl, _, _, rfl, rfl, ap, _, _, _, rfl, rfl, h1, e1, d, _, rfl, DGet.k (k := Sum.inr x) e2, _, rfl, ?_⟩
    refine ifF (by rw [valV_room, b0]; rfl) ?_
    have e3 : valV (roomK r0) (Sum.inr x) = some (.int (rd P x).2) := by rw [valV_room, b0]; rfl
    refine ⟨_, rfl, _, rfl, ap, _, rfl, .inr h1, _, _, rfl, rfl, _, rfl, _, _, rfl, rfl, ap, _, _, _, rfl, rfl, h1, e1, _, rfl, d, _, rfl, by have := DGet.k (k := Sum.inr x) e2; rw [e3] at this; exact this, ?_⟩
    obtain ⟨rv, g1, g2⟩ := TA.rw
    refine ⟨_, rfl, p, C, dx, _, _, rfl, hp, T.cl, T.nR, flR_rows _ _ _, ?_⟩
    refine ⟨.inl ⟨rfl, _, SqL.of g1⟩, _, rfl, _, rfl, _, rfl, one_sz (by show 3 ≤ 1000; decide), fun t ht => ?_⟩
    have f1 : Fr c0 H' (upd H' t (.tup [.str x, .int ((rd P x).1 : Int), .int (rd P x).2])) := Fr.new ht
    have T1 := TA.fr f1
    have g1' := f1.at g1 (fun z => z)
    have lr : rv.length = rows.length := by rw [g2.len, List.length_map]
    refine ⟨ar, rv, _, rfl, rfl, g1', Nat.lt_of_lt_of_le (m := 16000000) (by omega) (by rw [sizeLine_eq]; decide), ?_⟩
    have f2 : Fr (cT ar sa) (upd H' t (.tup [.str x, .int ((rd P x).1 : Int), .int (rd P x).2])) (upd (upd H' t (.tup [.str x, .int ((rd P x).1 : Int), .int (rd P x).2])) ar (.lst (rv ++ [.ref t]))) := Fr.set g1' ⟨.inl rfl, _, rfl⟩ trivial
    exact ⟨_, rfl, k _ ((Fr.of0 f1).trans f2) (T1.row g1' upd_same)⟩
  · obtain ⟨r, l1, a1, b1⟩ := rd_lt (P := P) (x := x) (k := j) (by omega)
    obtain ⟨d, e1, e2⟩ := room l1 a1
    refine ⟨_, rfl, _, rfl, _, rfl, ap, _, rfl, .inr h1, _, _, rfl, rfl, _, rfl, _, _, rfl, rfl, ap, _, _, _, rfl, rfl, h1, e1, d, _, rfl, DGet.k (k := Sum.inr x) e2, _, rfl, ?_⟩
    refine ifT (by rw [valV_room, b1]; rfl) ?_
    refine ⟨fun σ' H'' => ∃ j : Nat, σ' = [some (.ref p), some (.str x), some (.ref ap), some (.int j), none] ∧ H'' = H' ∧ j + (m - 1) = (rd P x).1, fun σ' H'' z => ⟨m - 1, by omega, z⟩, ?_⟩
    exact ⟨_, rfl, _, _, rfl, rfl, j + 1, rfl, rfl, by omega⟩
end BN
namespace BN
open PySem L2 PyProof.Rows
/-! ### work: what both need -/
structure WAt (S : PS') (K : PySem.W.Frag) (H : Hp) (v : V) (ap af : Addr) (pt : Part) (P : List Room) (fe : List Fn) : Prop where
  v : Dp K H v pt.enc
  p : PileAt S H ap P
  f : FunsAt S K H af fe
theorem WAt.fr {S : PS'} {K : PySem.W.Frag} {H H' : Hp} {C : CP} {v : V} {ap af : Addr} {pt : Part} {P : List Room} {fe : List Fn} (W : WAt S K H v ap af pt P fe) (hS : PStay S C) (hC : ∀ c kvs, ¬ C c (.dK kvs)) (f : Fr C H H') : WAt S K H' v ap af pt P fe :=
  ⟨Dp.fr f _ _ (tup_enc pt) W.v, W.p.fr hS hC f, FunsAt.fr hS hC f W.f⟩
structure WOk (n : Nat) (pt : Part) (P : List Room) (fe : List Fn) (ns : List Str) (m : Nat) : Prop where
  ok : pt.ok ns (arF fe)
  dom : ∀ x ∈ ns, hasR P x
  nw : ∀ x ∈ ns, wordB x = true
  env : EOk fe P
  dp : pt.dpt (dlt fe) ≤ n
  pl : P.length + pt.dpt (dlt fe) ≤ 1000
  fl : fe.length + pt.dpt (dlt fe) ≤ 1000
  wid : pt.wid ≤ 1000
  cst : m + pt.cst (cnt fe) ≤ 15000000
  ne : P ≠ []
abbrev dn (near : Bool) (pt : Part) (fe : List Fn) (P : List Room) : Out := den near pt (sem near fe) P
theorem dn_len (near : Bool) (pt : Part) (fe : List Fn) (P : List Room) : (dn near pt fe P).rows.length + (dn near pt fe P).said.length ≤ pt.cst (cnt fe) := den_len near pt _ P _ (sem_bnd near fe)
theorem TAt.say {K : PySem.W.Frag} {H : Hp} {r1 r2 : Addr} {rows : List Row} {said : List Int} (T : TAt K H r1 r2 rows said) (n : Int) : TAt K (upd H r2 (.lst (said.map V.int ++ [.int n]))) r1 r2 rows (said ++ [n]) := by
  obtain ⟨rv, h1, h2⟩ := T.rw
  have f : Fr (cT r1 r2) H (upd H r2 (.lst (said.map V.int ++ [.int n]))) := Fr.set T.sd ⟨.inr rfl, _, rfl⟩ trivial
  exact ⟨T.ne, ⟨rv, by rw [upd_ne T.ne]; exact h1, Dp.frs f _ _ (tup_rows _) h2⟩, by rw [upd_same, List.map_append]; rfl⟩
theorem PileAt.snocT {K : PySem.W.Frag} {H : Hp} {a d t : Addr} {P : List Room} {r : Room} {xs : List V} (h : PileAt (SqT K) H a P) (hd : H d = some (.dK (roomK r))) (hx : SqT K H a xs) (ht : SqT K H t (xs ++ [.ref d])) (hi : ∀ ys, SqT K H a ys → ys = xs) : PileAt (SqT K) H t (P ++ [r]) := by
  obtain ⟨ds, h1, h2, h3⟩ := h.ex
  have e := hi _ h1
  refine ⟨ds ++ [d], by rw [List.map_append, e]; exact ht, by simp [h2], fun k d' r' e1 e2 => ?_⟩
  by_cases hk : k < ds.length
  · rw [List.getElem?_append_left hk] at e1
    rw [List.getElem?_append_left (by omega)] at e2
    exact h3 k d' r' e1 e2
  · rw [List.getElem?_append_right (by omega)] at e1
    rw [List.getElem?_append_right (by omega)] at e2
    have : k - ds.length = 0 := by
      cases q : k - ds.length with
      | zero => rfl
      | succ m => rw [q] at e1; simp at e1
    rw [this] at e1
    rw [show k - P.length = 0 by omega] at e2
    have e1 : d = d' := by simpa using e1
    have e2 : r = r' := by simpa using e2
    subst e1 e2
    exact hd
theorem PileAt.snoc {S S2 : PS'} {H H' : Hp} {d t : Addr} {P : List Room} {r : Room} {ds : List Addr} (h2 : ds.length = P.length) (h3 : ∀ (k : Nat) (d : Addr) (r : Room), ds[k]? = some d → P[k]? = some r → H' d = some (.dK (roomK r))) (hd : H' d = some (.dK (roomK r))) (ht : S H' t (ds.map V.ref ++ [.ref d])) : PileAt S H' t (P ++ [r]) := by
  refine ⟨ds ++ [d], by rw [List.map_append]; exact ht, by simp [h2], fun k d' r' e1 e2 => ?_⟩
  by_cases hk : k < ds.length
  · rw [List.getElem?_append_left hk] at e1
    rw [List.getElem?_append_left (by omega)] at e2
    exact h3 k d' r' e1 e2
  · rw [List.getElem?_append_right (by omega)] at e1
    rw [List.getElem?_append_right (by omega)] at e2
    have : k - ds.length = 0 := by
      cases q : k - ds.length with
      | zero => rfl
      | succ m => rw [q] at e1; simp at e1
    rw [this] at e1
    rw [show k - P.length = 0 by omega] at e2
    have e1 : d = d' := by simpa using e1
    have e2 : r = r' := by simpa using e2
    subst e1 e2
    exact hd
theorem stayT {K : PySem.W.Frag} {C : CP} : PStay (SqT K) C := fun _ _ _ _ f h => f.sqT h
/-! ### work of the program -/
def spWork (K : PySem.W.Frag) (C : Addr) (n : Nat) : Sp := fun vs H Q _ => ∃ (p dx : Addr) (v : V) (ap af ar sa : Addr) (near : Bool) (pt : Part) (P : List Room) (fe : List Fn) (ns : List Str) (rows : List Row) (said : List Int), vs = [.ref p, v, .ref ap, .ref af] ∧
  H p = some (.ins C dx (flR near ar sa)) ∧ TAt K H ar sa rows said ∧ WAt (SqT K) K H v ap af pt P fe ∧ WOk n pt P fe ns (rows.length + said.length) ∧
  ∀ H', Fr (cT ar sa) H H' → TAt K H' ar sa (rows ++ (dn near pt fe P).rows) (said ++ (dn near pt fe P).said) → Q (.int (dn near pt fe P).v) H'
def spRCall (K : PySem.W.Frag) (C : Addr) (n : Nat) : Sp := fun vs H Q _ => ∃ (p dx : Addr) (v : V) (ap af ar sa : Addr) (near : Bool) (f : Str) (as : Parts) (P : List Room) (fe : List Fn) (ns : List Str) (rows : List Row) (said : List Int), vs = [.ref p, v, .ref ap, .ref af] ∧
  H p = some (.ins C dx (flR near ar sa)) ∧ TAt K H ar sa rows said ∧ WAt (SqT K) K H v ap af (.call f as) P fe ∧ WOk (n + 1) (.call f as) P fe ns (rows.length + said.length) ∧
  ∀ H', Fr (cT ar sa) H H' → TAt K H' ar sa (rows ++ (dn near (.call f as) fe P).rows) (said ++ (dn near (.call f as) fe P).said) → Q (.int (dn near (.call f as) fe P).v) H'
def t_work (K : PySem.W.Frag) (cRms : Addr) (n : Nat) : TS :=
  (tSeq (tAsg (tOp (rIxT K) (tVar 1) (tC (.int 0))) (gName 4))
    (tSeq (tIfS (tTest (tOp rEq (tVar 4) (tC (.str "num")))) (tRet (tOp (rIxT K) (tVar 1) (tC (.int 1)))) tNext)
    (tSeq (tIfS (tTest (tOp rEq (tVar 4) (tC (.str "name")))) (tRet (tMeth cRms "read" (spRead K cRms) [] C8.E0 (tVar 0) (tCons (tOp (rIxT K) (tVar 1) (tC (.int 1))) (tCons (tVar 2) tNil)))) tNext)
    (tSeq (tIfS (tTest (tOp rEq (tVar 4) (tC (.str "call")))) (tRet (tMeth cRms "call" (spRCall K cRms n) [] C8.E0 (tVar 0) (tCons (tVar 1) (tCons (tVar 2) (tCons (tVar 3) tNil))))) tNext)
    (tSeq (tIfS (tTest (tOp rEq (tVar 4) (tC (.str "fun")))) (tSeq (tAsg (tCB rDictD (tCons (tVar 3) tNil)) (gName 5))
    (tSeq (sDPut (tVar 5) (tOp (rIxT K) (tVar 1) (tC (.int 1))) (tTup (tCons (tOp (rIxT K) (tVar 1) (tC (.int 2))) (tCons (tOp (rIxT K) (tVar 1) (tC (.int 3))) (tCons (tVar 2) (tCons (tVar 3) tNil))))))
    (tRet (tMeth cRms "work" (spWork K cRms n) [] C8.E0 (tVar 0) (tCons (tOp (rIxT K) (tVar 1) (tC (.int 4))) (tCons (tVar 2) (tCons (tVar 5) tNil))))))) tNext)
    (tSeq (tAsg (tMeth cRms "work" (spWork K cRms n) [] C8.E0 (tVar 0) (tCons (tIf (tTest (tOp rEq (tVar 4) (tC (.str "let")))) (tOp (rIxT K) (tVar 1) (tC (.int 2))) (tOp (rIxT K) (tVar 1) (tC (.int 1)))) (tCons (tVar 2) (tCons (tVar 3) tNil)))) (gName 6))
    (tSeq (tIfS (tTest (tOp rEq (tVar 4) (tC (.str "let")))) (tRet (tMeth cRms "work" (spWork K cRms n) [] C8.E0 (tVar 0) (tCons (tOp (rIxT K) (tVar 1) (tC (.int 3))) (tCons (tOp (rCatT K) (tVar 2) (tTup (tCons (tDisp [((tOp (rIxT K) (tVar 1) (tC (.int 1))), (tVar 6))]) tNil))) (tCons (tVar 3) tNil))))) tNext)
    (tSeq (tIfS (tTest (tOp rEq (tVar 4) (tC (.str "say")))) (tSeq (tDrop (tBM K "list" rAppend (tFld K (tVar 0) "said") (tCons (tVar 6) tNil)))
    (tRet (tVar 6))) tNext)
    (tSeq (tIfS (tTest (tOp rEq (tVar 4) (tC (.str "if")))) (tRet (tMeth cRms "work" (spWork K cRms n) [] C8.E0 (tVar 0) (tCons (tIf (tTest (tOp rNe (tVar 6) (tC (.int 0)))) (tOp (rIxT K) (tVar 1) (tC (.int 2))) (tOp (rIxT K) (tVar 1) (tC (.int 3)))) (tCons (tVar 2) (tCons (tVar 3) tNil))))) tNext)
    (tSeq (tAsg (tMeth cRms "work" (spWork K cRms n) [] C8.E0 (tVar 0) (tCons (tOp (rIxT K) (tVar 1) (tC (.int 2))) (tCons (tVar 2) (tCons (tVar 3) tNil)))) (gName 7))
    (tRet (tIf (tTest (tOp rEq (tVar 4) (tC (.str "add")))) (tOp oMod (tOp oAdd (tVar 6) (tVar 7)) (tC (.int 100))) (tCB rInt1 (tCons (tOp oLt (tVar 6) (tVar 7)) tNil))))))))))))))
theorem pure_work {K : PySem.W.Frag} {C : Addr} {n : Nat} (T : RmsC K C) (vs : List V) (H : Hp) (Q : VK) (E : XK) (h : spWork K C (n + 1) vs H Q E) : t_work K C n { nx := fun _ H' => Q .non H', rt := Q } (start ["self", "part", "pile", "funs", "word", "known", "first", "other"] vs) H := by
  obtain ⟨p, dx, v, ap, af, ar, sa, near, pt, P, fe, ns, rows, said, rfl, hp, TA, W, O, k⟩ := h
  have sub : ∀ {H1 : Hp} {rows1 : List Row} {said1 : List Int} {q : Part} {u : V} {ap1 af1 : Addr} {P1 : List Room} {fe1 : List Fn} {ns1 : List Str} {R : VK}, H1 p = some (.ins C dx (flR near ar sa)) → TAt K H1 ar sa rows1 said1 → Dp K H1 u q.enc → PileAt (SqT K) H1 ap1 P1 → FunsAt (SqT K) K H1 af1 fe1 → WOk n q P1 fe1 ns1 (rows1.length + said1.length) →
      (∀ H', Fr (cT ar sa) H1 H' → H' p = some (.ins C dx (flR near ar sa)) → TAt K H' ar sa (rows1 ++ (dn near q fe1 P1).rows) (said1 ++ (dn near q fe1 P1).said) → R (.int (dn near q fe1 P1).v) H') → spWork K C n [.ref p, u, .ref ap1, .ref af1] H1 R C8.E0 :=
    fun {H1 rows1 said1 q u ap1 af1 P1 fe1 ns1 R} g1 g2 g3 g4 g5 g6 g7 => ⟨p, dx, u, ap1, af1, ar, sa, near, q, P1, fe1, ns1, rows1, said1, rfl, g1, g2, ⟨g3, g4, g5⟩, g6, fun H' f t => g7 H' f (f.at g1 cT_ins) t⟩
  have hS : ∀ {C : CP}, PStay (SqT K) C := stayT
  have hC : ∀ c kvs, ¬ cT ar sa c (.dK kvs) := fun _ _ => cT_dK
  obtain ⟨t, xs, rfl, hT, hx⟩ := inv_head W.v
  refine ⟨_, rfl, t, _, _, _, rfl, rfl, hT, atI_nat (j := 0) rfl, ?_⟩
  have o1 := O.dp; have o2 := O.pl; have o3 := O.fl; have o4 := O.wid; have o5 := O.cst
  have nosp : (flR near ar sa).lookup ("work" : Str) = none := flR_no _ _ _ (by decide +kernel) (by decide +kernel) (by decide +kernel)
  have norl : (flR near ar sa).lookup ("read" : Str) = none := flR_no _ _ _ (by decide +kernel) (by decide +kernel) (by decide +kernel)
  have nocl : (flR near ar sa).lookup ("call" : Str) = none := flR_no _ _ _ (by decide +kernel) (by decide +kernel) (by decide +kernel)
  cases pt with
  | num m =>
    obtain ⟨t', e, hT3⟩ := inv_num W.v
    cases e
    refine ⟨_, rfl, rfl, _, rfl, ifT (by kernel_rfl) ?_⟩
    exact ⟨_, rfl, t, _, _, _, rfl, rfl, hT3, rfl, k H (Fr.refl _) (by simpa [dn, den] using TA)⟩
  | name x =>
    obtain ⟨t', e, hT3⟩ := inv_name W.v
    cases e
    have hok := O.ok
    simp only [Part.ok] at hok
    simp only [Part.cst] at o5
    refine ⟨_, rfl, rfl, _, rfl, ifF (by kernel_rfl) ?_⟩
    refine ⟨_, rfl, rfl, _, rfl, ifT (by kernel_rfl) ?_⟩
    refine ⟨_, rfl, p, dx, _, rfl, hp, norl, _, rfl, t, _, _, _, rfl, rfl, hT3, rfl, _, rfl, p, dx, x, ap, P, ar, sa, near, rows, said, rfl, hp, TA, W.p, O.dom x hok, by omega, by omega, fun H' f t => ?_⟩
    exact k H' f (by simpa [dn, den] using t)
  | call f as =>
    refine ⟨_, rfl, rfl, _, rfl, ifF (by kernel_rfl) ?_⟩
    refine ⟨_, rfl, rfl, _, rfl, ifF (by kernel_rfl) ?_⟩
    refine ⟨_, rfl, rfl, _, rfl, ifT (by kernel_rfl) ?_⟩
    exact ⟨_, rfl, p, dx, _, rfl, hp, nocl, _, rfl, _, rfl, _, rfl, p, dx, .ref t, ap, af, ar, sa, near, f, as, P, fe, ns, rows, said, rfl, hp, TA, W, O, k⟩
  | fn f ps b r =>
    obtain ⟨t', tp, vb, vr, e, hT3, hTp, db, dr⟩ := inv_fn W.v
    cases e
    have hok := O.ok
    simp only [Part.ok] at hok
    simp only [Part.dpt] at o1 o2 o3
    simp only [Part.wid] at o4
    simp only [Part.cst] at o5
    refine ⟨_, rfl, rfl, _, rfl, ifF (by kernel_rfl) ?_⟩
    refine ⟨_, rfl, rfl, _, rfl, ifF (by kernel_rfl) ?_⟩
    refine ⟨_, rfl, rfl, _, rfl, ifF (by kernel_rfl) ?_⟩
    refine ⟨_, rfl, rfl, _, rfl, ifT (by kernel_rfl) ?_⟩
    obtain ⟨kvs, hk, hkl⟩ := W.f.dict
    refine ⟨_, rfl, af, kvs, rfl, .inl hk, fun kn hkn => ?_⟩
    have f1 : Fr c0 H (upd H kn (.dK kvs)) := Fr.new hkn
    have hT4 := f1.sqT hT3
    refine ⟨_, rfl, t, _, _, _, rfl, rfl, hT4, rfl, _, rfl, t, _, _, _, rfl, rfl, hT4, rfl, _, rfl, _, rfl, one_sz (by show 4 ≤ 1000; decide), fun tt htt => ?_⟩
    have f2 : Fr c0 (upd H kn (.dK kvs)) (upd (upd H kn (.dK kvs)) tt (.tup [.ref tp, vb, .ref ap, .ref af])) := Fr.new htt
    have nkt : kn ≠ tt := ne_of_none upd_same htt
    refine ⟨_, rfl, _, rfl, t, _, _, _, rfl, rfl, f2.sqT hT4, rfl, kn, _, rfl, DPut.k (k := Sum.inr f) (by rw [upd_ne nkt, upd_same]) (Nat.lt_of_lt_of_le (m := 2000) (by omega) (by rw [sizeLine_eq]; decide)), ?_⟩
    have f3 : Fr c0 H (upd (upd (upd H kn (.dK kvs)) tt (.tup [.ref tp, vb, .ref ap, .ref af])) kn (.dK (putK kvs (Sum.inr f) (.ref tt)))) := (f1.trans f2).fresh hkn
    have htt3 : (upd (upd (upd H kn (.dK kvs)) tt (.tup [.ref tp, vb, .ref ap, .ref af])) kn (.dK (putK kvs (Sum.inr f) (.ref tt)))) tt = some (.tup [.ref tp, vb, .ref ap, .ref af]) := by rw [upd_ne nkt.symm, upd_same]
    have hkn3 : (upd (upd (upd H kn (.dK kvs)) tt (.tup [.ref tp, vb, .ref ap, .ref af])) kn (.dK (putK kvs (Sum.inr f) (.ref tt)))) kn = some (.dK (putK kvs (Sum.inr f) (.ref tt))) := upd_same
    generalize (upd (upd (upd H kn (.dK kvs)) tt (.tup [.ref tp, vb, .ref ap, .ref af])) kn (.dK (putK kvs (Sum.inr f) (.ref tt)))) = H3 at f3 htt3 hkn3 ⊢
    have W3 := W.fr hS (fun _ _ z => z) f3
    have hT5 := f3.sqT hT3
    refine ⟨_, rfl, p, dx, _, rfl, f3.at hp (fun z => z), nosp, _, rfl, t, _, _, _, rfl, rfl, hT5, rfl, _, rfl, _, rfl, ?_⟩
    refine sub (fe1 := ⟨f, ps, b, P, ns⟩ :: fe) (ns1 := ns) (f3.at hp (fun z => z)) (TA.fr f3) (Dp.fr f3 _ _ (tup_enc r) dr) W3.p
      ⟨af, tt, tp, ap, vb, kvs, W3.f, f3.at hk (fun z => z), hkn3, SqT.of htt3, f3.sqT hTp, Dp.fr f3 _ _ (tup_enc b) db, W3.p⟩
      ⟨hok.2.2.2.2.2, O.dom, O.nw, ⟨O.env, O.env, O.dom, O.dom, hok.2.2.2.2.1, hok.2.2.1, hok.2.1, by show P.length + 1 + b.dpt (dlt fe) ≤ 1000; omega, by show fe.length + b.dpt (dlt fe) ≤ 1000; omega, by show b.wid ≤ 1000; omega, O.ne, fun x hx => ?_⟩, by simp only [dlt]; omega, by simp only [dlt]; omega, by simp only [dlt, List.length_cons]; omega, by omega, by simp only [cnt]; omega, O.ne⟩ fun H' f' hp' t => ?_
    · rcases List.mem_append.mp hx with z | z
      · exact O.nw x z
      · exact hok.2.2.2.1 x z
    · exact k H' ((Fr.of0 f3).trans f') t
  | lt x a b =>
    obtain ⟨t', va, vb, e, hT3, da, db⟩ := inv_lt W.v
    cases e
    have hok := O.ok
    simp only [Part.ok] at hok
    simp only [Part.dpt] at o1 o2 o3
    simp only [Part.wid] at o4
    simp only [Part.cst] at o5
    simp only [dn, den, Out.bnd] at k
    refine ⟨_, rfl, rfl, _, rfl, ifF (by kernel_rfl) ?_⟩
    refine ⟨_, rfl, rfl, _, rfl, ifF (by kernel_rfl) ?_⟩
    refine ⟨_, rfl, rfl, _, rfl, ifF (by kernel_rfl) ?_⟩
    refine ⟨_, rfl, rfl, _, rfl, ifF (by kernel_rfl) ?_⟩
    refine ⟨_, rfl, p, dx, _, rfl, hp, nosp, _, rfl, rfl, _, rfl, ifT (by kernel_rfl) ?_⟩
    refine ⟨_, rfl, t, _, _, _, rfl, rfl, hT3, rfl, _, rfl, _, rfl, ?_⟩
    have l1 := dn_len near a fe P
    refine ⟨p, dx, va, ap, af, ar, sa, near, a, P, fe, ns, rows, said, rfl, hp, TA, ⟨da, W.p, W.f⟩, ⟨hok.2.1, O.dom, O.nw, O.env, by omega, by omega, by omega, by omega, by omega, O.ne⟩, fun H1 f1 TA1 => ?_⟩
    have hp1 := f1.at hp cT_ins
    have W1 := W.fr hS hC f1
    refine ⟨_, rfl, rfl, _, rfl, ifT (by kernel_rfl) ?_⟩
    refine ⟨_, rfl, p, dx, _, rfl, hp1, nosp, _, rfl, t, _, _, _, rfl, rfl, f1.sqT hT3, rfl, _, rfl, fun d hd => ?_⟩
    have f2 : Fr c0 H1 (upd H1 d (.dK [])) := Fr.new hd
    refine ⟨_, rfl, t, _, _, _, rfl, rfl, (f1.trans (Fr.of0 f2)).sqT hT3, rfl, _, rfl, upd_same, [(Sum.inr x, .int (dn near a fe P).v)], rfl, (by show 1 ≤ 15; decide), ?_⟩
    have f3 : Fr c0 H1 (upd (upd H1 d (.dK [])) d (.dK (mergeK [] [(Sum.inr x, .int (dn near a fe P).v)]))) := f2.fresh hd
    have hd3 : (upd (upd H1 d (.dK [])) d (.dK (mergeK [] [(Sum.inr x, .int (dn near a fe P).v)]))) d = some (.dK (roomK [(x, (dn near a fe P).v)])) := by rw [upd_same]; rfl
    generalize (upd (upd H1 d (.dK [])) d (.dK (mergeK [] [(Sum.inr x, .int (dn near a fe P).v)]))) = H3 at f3 hd3 ⊢
    obtain ⟨ds, q1, q2, q3⟩ := (W1.p.fr hS (fun _ _ z => z) f3).ex
    refine ⟨one_sz (by show 1 ≤ 1000; decide), fun t2 ht2 => ?_⟩
    have f4 : Fr c0 H3 (upd H3 t2 (.tup [.ref d])) := Fr.new ht2
    have q1' := f4.sqT q1
    have nds : ds.map V.ref ≠ [] := fun z => O.ne (List.eq_nil_of_length_eq_zero (by have := congrArg List.length z; simp at this; rw [← q2, this]; rfl))
    refine ⟨ap, t2, _, [.ref d], rfl, rfl, q1', SqT.of upd_same, nds, one_sz (by rw [List.length_map, q2]; show P.length + 1 ≤ 1000; omega), (fun z => by simp at z), fun _ t3 ht3 => ?_⟩
    have f5 : Fr c0 (upd H3 t2 (.tup [.ref d])) (upd (upd H3 t2 (.tup [.ref d])) t3 (.tup (ds.map V.ref ++ [.ref d]))) := Fr.new ht3
    have f35 := f4.trans f5
    have f15 := f3.trans f35
    have W5 := W1.fr hS (fun _ _ z => z) f15
    refine ⟨_, rfl, ?_⟩
    have wx : ∀ y ∈ ns ++ [x], wordB y = true := fun y hy => by
      rcases List.mem_append.mp hy with z | z
      · exact O.nw y z
      · rw [List.mem_singleton.mp z]; exact hok.1
    have dx' : ∀ y ∈ ns ++ [x], hasR (P ++ [[(x, (dn near a fe P).v)]]) y := fun y hy => by
      rcases List.mem_append.mp hy with z | z
      · exact (O.dom y z).app _
      · rw [List.mem_singleton.mp z]; exact hasR.one _ _ _
    refine ⟨p, dx, vb, t3, af, ar, sa, near, b, P ++ [[(x, (dn near a fe P).v)]], fe, ns ++ [x], rows ++ (dn near a fe P).rows, said ++ (dn near a fe P).said, rfl, f15.at hp1 (fun z => z), TA1.fr f15, ⟨Dp.fr (f1.trans (Fr.of0 f15)) _ _ (tup_enc b) db,
      (PileAt.snoc (S := SqT K) (S2 := SqT K) (H := H) q2 (fun k d r e1 e2 => f35.at (q3 k d r e1 e2) (fun z => z)) (f35.at hd3 (fun z => z)) (SqT.of upd_same)), W5.f⟩,
      ⟨hok.2.2, dx', wx, O.env.mono fun y hy => hy.app _, by omega, by rw [List.length_append]; show P.length + 1 + _ ≤ _; omega, by omega, by omega, by rw [List.length_append, List.length_append]; omega, by simp⟩, fun H6 f6 TA6 => ?_⟩
    exact k H6 ((f1.trans (Fr.of0 f15)).trans f6) (by simpa only [dn, List.append_assoc] using TA6)
  | say a =>
    obtain ⟨t', va, e, hT3, da⟩ := inv_say W.v
    cases e
    have hok := O.ok
    simp only [Part.ok] at hok
    simp only [Part.dpt] at o1 o2 o3
    simp only [Part.wid] at o4
    simp only [Part.cst] at o5
    simp only [dn, den, Out.bnd] at k
    refine ⟨_, rfl, rfl, _, rfl, ifF (by kernel_rfl) ?_⟩
    refine ⟨_, rfl, rfl, _, rfl, ifF (by kernel_rfl) ?_⟩
    refine ⟨_, rfl, rfl, _, rfl, ifF (by kernel_rfl) ?_⟩
    refine ⟨_, rfl, rfl, _, rfl, ifF (by kernel_rfl) ?_⟩
    refine ⟨_, rfl, p, dx, _, rfl, hp, nosp, _, rfl, rfl, _, rfl, ifF (by kernel_rfl) ?_⟩
    refine ⟨_, rfl, t, _, _, _, rfl, rfl, hT3, rfl, _, rfl, _, rfl, ?_⟩
    have l1 := dn_len near a fe P
    refine ⟨p, dx, va, ap, af, ar, sa, near, a, P, fe, ns, rows, said, rfl, hp, TA, ⟨da, W.p, W.f⟩, ⟨hok, O.dom, O.nw, O.env, by omega, by omega, by omega, by omega, by omega, O.ne⟩, fun H1 f1 TA1 => ?_⟩
    have hp1 := f1.at hp cT_ins
    refine ⟨_, rfl, rfl, _, rfl, ifF (by kernel_rfl) ?_⟩
    refine ⟨_, rfl, rfl, _, rfl, ifT (by kernel_rfl) ?_⟩
    refine ⟨_, rfl, p, C, dx, _, _, rfl, hp1, T.cl, T.nS, flR_said _ _ _, .inl ⟨rfl, _, SqL.of TA1.sd⟩, _, rfl, sa, _, _, rfl, rfl, TA1.sd, Nat.lt_of_lt_of_le (m := 16000000) (by rw [List.length_map, List.length_append]; omega) (by rw [sizeLine_eq]; decide), _, rfl, ?_⟩
    refine k _ (f1.trans (Fr.set TA1.sd ⟨.inr rfl, _, rfl⟩ trivial)) ?_
    simpa only [dn, List.append_assoc, List.append_nil] using TA1.say (dn near a fe P).v
  | ite c a b =>
    obtain ⟨t', vc, va, vb, e, hT3, dc, da, db⟩ := inv_ite W.v
    cases e
    have hok := O.ok
    simp only [Part.ok] at hok
    simp only [Part.dpt] at o1 o2 o3
    simp only [Part.wid] at o4
    simp only [Part.cst] at o5
    simp only [dn, den, Out.bnd] at k
    refine ⟨_, rfl, rfl, _, rfl, ifF (by kernel_rfl) ?_⟩
    refine ⟨_, rfl, rfl, _, rfl, ifF (by kernel_rfl) ?_⟩
    refine ⟨_, rfl, rfl, _, rfl, ifF (by kernel_rfl) ?_⟩
    refine ⟨_, rfl, rfl, _, rfl, ifF (by kernel_rfl) ?_⟩
    refine ⟨_, rfl, p, dx, _, rfl, hp, nosp, _, rfl, rfl, _, rfl, ifF (by kernel_rfl) ?_⟩
    refine ⟨_, rfl, t, _, _, _, rfl, rfl, hT3, rfl, _, rfl, _, rfl, ?_⟩
    have l1 := dn_len near c fe P
    refine ⟨p, dx, vc, ap, af, ar, sa, near, c, P, fe, ns, rows, said, rfl, hp, TA, ⟨dc, W.p, W.f⟩, ⟨hok.1, O.dom, O.nw, O.env, by omega, by omega, by omega, by omega, by omega, O.ne⟩, fun H1 f1 TA1 => ?_⟩
    have hp1 := f1.at hp cT_ins
    have W1 := W.fr hS hC f1
    refine ⟨_, rfl, rfl, _, rfl, ifF (by kernel_rfl) ?_⟩
    refine ⟨_, rfl, rfl, _, rfl, ifF (by kernel_rfl) ?_⟩
    refine ⟨_, rfl, rfl, _, rfl, ifT (by kernel_rfl) ?_⟩
    refine ⟨_, rfl, p, dx, _, rfl, hp1, nosp, _, rfl, rfl, _, rfl, ?_⟩
    by_cases hz : (dn near c fe P).v = 0
    · refine ifF (by rw [hz]; decide +kernel) ⟨_, rfl, t, _, _, _, rfl, rfl, f1.sqT hT3, rfl, _, rfl, _, rfl, ?_⟩
      rw [if_pos hz] at k
      refine ⟨p, dx, vb, ap, af, ar, sa, near, b, P, fe, ns, rows ++ (dn near c fe P).rows, said ++ (dn near c fe P).said, rfl, hp1, TA1, ⟨(Dp.fr f1 _ _ (tup_enc b) db), W1.p, W1.f⟩, ⟨hok.2.2, O.dom, O.nw, O.env, by omega, by omega, by omega, by omega, by rw [List.length_append, List.length_append]; omega, O.ne⟩, fun H2 f2 TA2 => ?_⟩
      have hp2 := f2.at hp1 cT_ins
      exact k H2 (f1.trans f2) (by simpa only [dn, List.append_assoc] using TA2)
    · have e0 : (!decide (V.int (dn near c fe P).v = V.int 0)) = true := by
        rw [decide_eq_false fun z => hz (V.int.inj z)]; rfl
      refine ifT e0 ⟨_, rfl, t, _, _, _, rfl, rfl, f1.sqT hT3, rfl, _, rfl, _, rfl, ?_⟩
      rw [if_neg hz] at k
      refine ⟨p, dx, va, ap, af, ar, sa, near, a, P, fe, ns, rows ++ (dn near c fe P).rows, said ++ (dn near c fe P).said, rfl, hp1, TA1, ⟨(Dp.fr f1 _ _ (tup_enc a) da), W1.p, W1.f⟩, ⟨hok.2.1, O.dom, O.nw, O.env, by omega, by omega, by omega, by omega, by rw [List.length_append, List.length_append]; omega, O.ne⟩, fun H2 f2 TA2 => ?_⟩
      have hp2 := f2.at hp1 cT_ins
      exact k H2 (f1.trans f2) (by simpa only [dn, List.append_assoc] using TA2)
  | add a b =>
    obtain ⟨t', va, vb, e, hT3, da, db⟩ := inv_add W.v
    cases e
    have hok := O.ok
    simp only [Part.ok] at hok
    simp only [Part.dpt] at o1 o2 o3
    simp only [Part.wid] at o4
    simp only [Part.cst] at o5
    simp only [dn, den, Out.bnd] at k
    refine ⟨_, rfl, rfl, _, rfl, ifF (by kernel_rfl) ?_⟩
    refine ⟨_, rfl, rfl, _, rfl, ifF (by kernel_rfl) ?_⟩
    refine ⟨_, rfl, rfl, _, rfl, ifF (by kernel_rfl) ?_⟩
    refine ⟨_, rfl, rfl, _, rfl, ifF (by kernel_rfl) ?_⟩
    refine ⟨_, rfl, p, dx, _, rfl, hp, nosp, _, rfl, rfl, _, rfl, ifF (by kernel_rfl) ?_⟩
    refine ⟨_, rfl, t, _, _, _, rfl, rfl, hT3, rfl, _, rfl, _, rfl, ?_⟩
    have l1 := dn_len near a fe P
    refine ⟨p, dx, va, ap, af, ar, sa, near, a, P, fe, ns, rows, said, rfl, hp, TA, ⟨da, W.p, W.f⟩, ⟨hok.1, O.dom, O.nw, O.env, by omega, by omega, by omega, by omega, by omega, O.ne⟩, fun H1 f1 TA1 => ?_⟩
    have hp1 := f1.at hp cT_ins
    have W1 := W.fr hS hC f1
    refine ⟨_, rfl, rfl, _, rfl, ifF (by kernel_rfl) ?_⟩
    refine ⟨_, rfl, rfl, _, rfl, ifF (by kernel_rfl) ?_⟩
    refine ⟨_, rfl, rfl, _, rfl, ifF (by kernel_rfl) ?_⟩
    refine ⟨_, rfl, p, dx, _, rfl, hp1, nosp, _, rfl, t, _, _, _, rfl, rfl, f1.sqT hT3, rfl, _, rfl, _, rfl, ?_⟩
    refine ⟨p, dx, vb, ap, af, ar, sa, near, b, P, fe, ns, rows ++ (dn near a fe P).rows, said ++ (dn near a fe P).said, rfl, hp1, TA1, ⟨(Dp.fr f1 _ _ (tup_enc b) db), W1.p, W1.f⟩, ⟨hok.2, O.dom, O.nw, O.env, by omega, by omega, by omega, by omega, by rw [List.length_append, List.length_append]; omega, O.ne⟩, fun H2 f2 TA2 => ?_⟩
    have hp2 := f2.at hp1 cT_ins
    refine ⟨_, rfl, rfl, _, rfl, ifT (by kernel_rfl) ⟨_, rfl, _, rfl, _, _, rfl, rfl, _, _, rfl, rfl, (by show (0 : Int) < 100; decide), ?_⟩⟩
    exact k H2 (f1.trans f2) (by simpa only [dn, List.append_assoc, List.append_nil] using TA2)
  | less a b =>
    obtain ⟨t', va, vb, e, hT3, da, db⟩ := inv_less W.v
    cases e
    have hok := O.ok
    simp only [Part.ok] at hok
    simp only [Part.dpt] at o1 o2 o3
    simp only [Part.wid] at o4
    simp only [Part.cst] at o5
    simp only [dn, den, Out.bnd] at k
    refine ⟨_, rfl, rfl, _, rfl, ifF (by kernel_rfl) ?_⟩
    refine ⟨_, rfl, rfl, _, rfl, ifF (by kernel_rfl) ?_⟩
    refine ⟨_, rfl, rfl, _, rfl, ifF (by kernel_rfl) ?_⟩
    refine ⟨_, rfl, rfl, _, rfl, ifF (by kernel_rfl) ?_⟩
    refine ⟨_, rfl, p, dx, _, rfl, hp, nosp, _, rfl, rfl, _, rfl, ifF (by kernel_rfl) ?_⟩
    refine ⟨_, rfl, t, _, _, _, rfl, rfl, hT3, rfl, _, rfl, _, rfl, ?_⟩
    have l1 := dn_len near a fe P
    refine ⟨p, dx, va, ap, af, ar, sa, near, a, P, fe, ns, rows, said, rfl, hp, TA, ⟨da, W.p, W.f⟩, ⟨hok.1, O.dom, O.nw, O.env, by omega, by omega, by omega, by omega, by omega, O.ne⟩, fun H1 f1 TA1 => ?_⟩
    have hp1 := f1.at hp cT_ins
    have W1 := W.fr hS hC f1
    refine ⟨_, rfl, rfl, _, rfl, ifF (by kernel_rfl) ?_⟩
    refine ⟨_, rfl, rfl, _, rfl, ifF (by kernel_rfl) ?_⟩
    refine ⟨_, rfl, rfl, _, rfl, ifF (by kernel_rfl) ?_⟩
    refine ⟨_, rfl, p, dx, _, rfl, hp1, nosp, _, rfl, t, _, _, _, rfl, rfl, f1.sqT hT3, rfl, _, rfl, _, rfl, ?_⟩
    refine ⟨p, dx, vb, ap, af, ar, sa, near, b, P, fe, ns, rows ++ (dn near a fe P).rows, said ++ (dn near a fe P).said, rfl, hp1, TA1, ⟨(Dp.fr f1 _ _ (tup_enc b) db), W1.p, W1.f⟩, ⟨hok.2, O.dom, O.nw, O.env, by omega, by omega, by omega, by omega, by rw [List.length_append, List.length_append]; omega, O.ne⟩, fun H2 f2 TA2 => ?_⟩
    have hp2 := f2.at hp1 cT_ins
    refine ⟨_, rfl, rfl, _, rfl, ifF (by kernel_rfl) ⟨_, rfl, _, rfl, _, _, rfl, rfl, .inr ⟨_, rfl, ?_⟩⟩⟩
    have ei : (if decide ((dn near a fe P).v < (dn near b fe P).v) = true then (1 : Int) else 0) = if (dn near a fe P).v < (dn near b fe P).v then 1 else 0 := by simp only [decide_eq_true_eq]
    rw [ei]
    exact k H2 (f1.trans f2) (by simpa only [dn, List.append_assoc, List.append_nil] using TA2)
end BN
namespace BN
open PySem L2 PyProof.Rows
/-! ### a call -/
theorem dens_take (near : Bool) {e : SEnv} {P : List Room} {d : Str → Nat} (hb : Bnd e d) : ∀ {as : Parts} {i : Nat} {q : Part}, as.list[i]? = some q → (((dens near as e P).take i).flatMap (·.rows)).length + (((dens near as e P).take i).flatMap (·.said)).length + q.cst d ≤ as.cst d
  | .nil, i, q, h => by simp [Parts.list] at h
  | .cons p r, 0, q, h => by
    have e : p = q := by simpa [Parts.list] using h
    subst e
    simp [Parts.cst]
  | .cons p r, i + 1, q, h => by
    have ih := dens_take near (P := P) hb (as := r) (i := i) (q := q) (by simpa [Parts.list] using h)
    have h1 := den_len near p e P d hb
    simp only [Out.len] at h1
    simp only [dens, List.take_succ_cons, List.flatMap_cons, List.length_append, Parts.cst]
    omega
theorem paired_of {α β : Type} {F : α → β → Prop} : ∀ {xs : List α} {ys : List β}, xs.length = ys.length → (∀ (j : Nat) (x : α) (y : β), xs[j]? = some x → ys[j]? = some y → F x y) → Paired F xs ys
  | [], [], _, _ => .nil
  | [], _ :: _, h, _ => by simp at h
  | _ :: _, [], h, _ => by simp at h
  | x :: xs, y :: ys, h, k => .cons (k 0 x y rfl rfl) (paired_of (by simpa using h) fun j a b h1 h2 => k (j + 1) a b (by simpa using h1) (by simpa using h2))
/-- the pairs of a zip -/
theorem zip_paired {K : PySem.W.Frag} {H : Hp} {ps : List Str} {vs : List Int} {ts : List Addr} (hl : ps.length = vs.length) (ht : ts.length = ps.length) (h : ∀ (j : Nat) (t : Addr), ts[j]? = some t → ∃ x y, (ps.map V.str)[j]? = some x ∧ (vs.map V.int)[j]? = some y ∧ H t = some (.tup [x, y])) :
    Paired (fun p kv => SqT K H p [kV kv.1, kv.2]) ts (roomK (ps.zip vs)) := by
  refine paired_of (by unfold roomK; rw [List.length_map, List.length_zip]; omega) fun j t kv h1 h2 => ?_
  obtain ⟨x, y, e1, e2, e3⟩ := h j t h1
  unfold roomK at h2
  obtain ⟨⟨a, b⟩, h3, rfl⟩ := map_at h2
  rw [List.getElem?_zip_eq_some] at h3
  rw [List.getElem?_map, h3.1] at e1
  rw [List.getElem?_map, h3.2] at e2
  cases e1; cases e2
  exact SqT.of e3
def t_rcall (K : PySem.W.Frag) (cRms : Addr) (n : Nat) : TS :=
  (tSeq (tAsg (tLc (iTup K (tOp (rIxT K) (tVar 1) (tC (.int 2)))) (gName 10) tYes (tMeth cRms "work" (spWork K cRms n) [] C8.E0 (tVar 0) (tCons (tVar 10) (tCons (tVar 2) (tCons (tVar 3) tNil)))) [10]) (gName 4))
    (tSeq (tAsg (tDGet (tVar 3) (tOp (rIxT K) (tVar 1) (tC (.int 1)))) (gTup K 4 (gCons (gName 5) (gCons (gName 6) (gCons (gName 7) (gCons (gName 8) gNil))))))
    (tSeq (tAsg (tCB (rDictP K) (tCons (BNZ.tLZ K (tCons (tVar 5) (tCons (tVar 4) tNil))) tNil)) (gName 9))
    (tRet (tMeth cRms "work" (spWork K cRms n) [] C8.E0 (tVar 0) (tCons (tVar 6) (tCons (tOp (rCatT K) (tIf (tB (tFld K (tVar 0) "is_near")) (tVar 7) (tVar 2)) (tTup (tCons (tVar 9) tNil))) (tCons (tVar 8) tNil))))))))
theorem pure_rcall {K : PySem.W.Frag} {C : Addr} {n : Nat} (T : RmsC K C) (vs : List V) (H : Hp) (Q : VK) (E : XK) (h : spRCall K C (n + 1) vs H Q E) :
    t_rcall K C n { nx := fun _ H' => Q .non H', rt := Q } (start ["self", "part", "pile", "funs", "numbers", "params", "body", "home", "known", "room", "one"] vs) H := by
  obtain ⟨p, dx, v, ap, af, ar, sa, near, f, as, P, fe, ns, rows, said, rfl, hp, TA, W, O, k⟩ := h
  obtain ⟨t, ta, ws, rfl, hT, hA, da⟩ := inv_call W.v
  have hS : ∀ {C : CP}, PStay (SqT K) C := stayT
  have hC : ∀ c kvs, ¬ cT ar sa c (.dK kvs) := fun _ _ => cT_dK
  have o1 := O.dp; have o2 := O.pl; have o3 := O.fl; have o4 := O.wid; have o5 := O.cst
  have hok := O.ok
  simp only [Part.ok] at hok
  simp only [Part.dpt] at o1 o2 o3
  simp only [Part.wid] at o4
  simp only [Part.cst] at o5
  have hb := sem_bnd near fe
  have nosp : (flR near ar sa).lookup ("work" : Str) = none := flR_no _ _ _ (by decide +kernel) (by decide +kernel) (by decide +kernel)
  obtain ⟨os, hos⟩ : ∃ os, os = dens near as (sem near fe) P := ⟨_, rfl⟩
  have los : os = as.list.map fun q => dn near q fe P := by rw [hos, dens_list]
  have lw : ws.length = as.list.length := by rw [da.len, List.length_map]
  have lo : os.length = as.list.length := by rw [los, List.length_map]
  have la := Parts.list_len as
  refine ⟨_, rfl, t, _, _, _, rfl, rfl, hT, rfl, ta, rfl, ⟨_, hA⟩, ?_⟩
  refine lcJ_tup (K := K) (a := ta) (xs := ws) (C := cT ar sa) (I := fun i H' => H' p = some (.ins C dx (flR near ar sa)) ∧ TAt K H' ar sa (rows ++ (os.take i).flatMap (·.rows)) (said ++ (os.take i).flatMap (·.said))) (Good := fun i d => ∃ q, as.list[i]? = some q ∧ d = .int (dn near q fe P).v)
    hA (fun i H' D ys hD fD ⟨g1, g2⟩ => ?_) (fun D o hD z => ?_) ⟨hp, by simpa using TA⟩ (by omega) (fun i x hi H' f' ⟨hp', TA'⟩ Q' hQ => ?_) fun D vs ds H2 hD e2 da2 dl dg f2 ⟨hp2, TA2⟩ => ?_
  · have n1 : D ≠ p := fun z => by rw [z, hp] at hD; cases hD
    have n2 : D ≠ ar := fun z => by obtain ⟨rv, h1, _⟩ := TA.rw; rw [z, h1] at hD; cases hD
    have n3 : D ≠ sa := fun z => by rw [z, TA.sd] at hD; cases hD
    exact ⟨by rw [upd_ne n1.symm]; exact g1, g2.new n2 n3 fD⟩
  · obtain ⟨z | z, _⟩ := z
    · obtain ⟨rv, h1, _⟩ := TA.rw
      rw [z, h1] at hD; cases hD
    · rw [z, TA.sd] at hD; cases hD
  · obtain ⟨dd, hdd, Dx⟩ := da.getV hi
    obtain ⟨q, hq, rfl⟩ := map_at hdd
    have hm := List.mem_of_getElem? hq
    have W' := W.fr hS hC f'
    have c1 := dens_take near hb (P := P) hq
    rw [← hos] at c1
    have d1 := dpt_list (d := dlt fe) hm
    have w1 := wid_list as q hm
    refine ⟨_, rfl, p, dx, _, rfl, hp', nosp, _, rfl, _, rfl, _, rfl, p, dx, x, ap, af, ar, sa, near, q, P, fe, ns, _, _, rfl, hp', TA', ⟨Dp.fr f' _ _ (tup_enc q) Dx, W'.p, W'.f⟩, ⟨parts_in hok.2 q hm, O.dom, O.nw, O.env, by omega, by omega, by omega, by omega, by rw [List.length_append, List.length_append]; omega, O.ne⟩, fun H3 f3 T3 => ?_⟩
    refine hQ (.int (dn near q fe P).v) _ _ ⟨q, hq, rfl⟩ rfl (.int _) f3 ⟨f3.at hp' cT_ins, ?_⟩
    have hoi : os[i]? = some (dn near q fe P) := by rw [los, List.getElem?_map, hq]; rfl
    rw [take_more hoi]
    simpa only [List.flatMap_append, List.flatMap_cons, List.flatMap_nil, List.append_nil, List.append_assoc] using T3
  · have hds : ds = (os.map (·.v)).map PyData.int := by
      rw [los, List.map_map, List.map_map]
      exact eq_map_of_at (by rw [dl, lw]) fun k d hk => (dg k d hk).1
    rw [hds] at da2
    have hvs := da2.ints_inv
    subst hvs
    rw [lw, ← lo, List.take_length] at TA2
    have hTA2 := TA2
    have W2 := W.fr hS hC f2
    obtain ⟨e, tl, l, rfl, ef, hl, hpl, hE, hdl, hcn, hsm⟩ := env_at near hok.1 O.env
    obtain ⟨kvs, kn, tt, tp, ph, vb, g1, g2, g3, g4, g5, g6, g7⟩ := FunsAt.get W2.f fun x hx => by rw [ef]; exact hl x hx
    rw [ef] at g2
    have lvs : (os.map (·.v)).length = as.len := by rw [List.length_map, lo, la]
    refine ⟨_, rfl, _, rfl, t, _, _, _, rfl, rfl, f2.sqT hT, rfl, af, _, rfl, by have := DGet.k (k := Sum.inr f) g1; rw [g2] at this; exact this, tt, _, rfl, g4, rfl, _, _, rfl, _, _, rfl, _, _, rfl, _, _, rfl, rfl, ?_⟩
    refine ⟨_, rfl, _, rfl, tp, D, _, _, rfl, .inr g5, .inl (SqL.of e2), by rw [List.length_map, List.length_map]; omega, fun H3 L ts f3 hL eL el hts => ⟨L, ts, roomK (e.ps.zip (os.map (·.v))), rfl, SqL.of eL, zip_paired (by omega) (by rw [el, List.length_map]) (fun j t h => (hts j t h).2.2), fun q hq => ?_⟩⟩
    obtain ⟨E1, E2, E3, E4, E5, E6, E7, E8, E9, E10, E11, E12⟩ := id hE
    rw [merge_zip E6 (by omega)]
    have f4 : Fr c0 H2 (upd H3 q (.dK (roomK (e.ps.zip (os.map (·.v)))))) := f3.trans (Fr.new hq)
    have hq4 : (upd H3 q (.dK (roomK (e.ps.zip (os.map (·.v)))))) q = some (.dK (roomK (e.ps.zip (os.map (·.v))))) := upd_same
    generalize (upd H3 q (.dK (roomK (e.ps.zip (os.map (·.v)))))) = H4 at f4 hq4 ⊢
    have hp4 := f4.at hp2 (fun z => z)
    have TA4 := TA2.fr f4
    have P4 := W2.p.fr hS (fun _ _ z => z) f4
    have G4 := g7.fr hS (fun _ _ z => z) f4
    have F4 := FunsAt.fr hS (fun _ _ z => z) f4 g3
    have B4 := Dp.fr f4 _ _ (tup_enc _) g6
    have cd := dens_len near as (sem near (l ++ e :: tl)) P _ hb
    rw [← hos] at cd
    obtain ⟨pb, PB, hPB, hsel⟩ : ∃ (pb : Addr) (PB : List Room), (PB = (if near = true then e.home else P) ∧ PileAt (SqT K) H4 pb PB ∧ PB ≠ [] ∧ EOk tl PB ∧ (∀ x ∈ e.ns, hasR PB x) ∧ PB.length + 1 + e.b.dpt (dlt tl) ≤ 1000) ∧
        ∀ R : VK, R (.ref pb) H4 → tIf (tB (tFld K (tVar 0) "is_near")) (tVar 7) (tVar 2) [some (.ref p), some (.ref t), some (.ref ap), some (.ref af), some (.ref D), some (.ref tp), some vb, some (.ref ph), some (.ref kn), some (.ref q), none] H4 R := by
      cases near with
      | true => exact ⟨ph, e.home, ⟨rfl, G4, E11, E2, E4, by omega⟩, fun R hR => ⟨_, rfl, p, C, dx, _, _, rfl, hp4, T.cl, T.nN, flR_near _ _ _, _, rfl, ifT rfl ⟨_, rfl, hR⟩⟩⟩
      | false => exact ⟨ap, P, ⟨rfl, P4, O.ne, E1, E3, by omega⟩, fun R hR => ⟨_, rfl, p, C, dx, _, _, rfl, hp4, T.cl, T.nN, flR_near _ _ _, _, rfl, ifF rfl ⟨_, rfl, hR⟩⟩⟩
    obtain ⟨ePB, PB4, nePB, ePB2, dPB, lPB⟩ := hPB
    obtain ⟨dsp, q1, q2, q3⟩ := PB4.ex
    refine ⟨_, rfl, p, dx, _, rfl, hp4, nosp, _, rfl, hsel _ ⟨_, rfl, one_sz (by show 1 ≤ 1000; decide), fun t2 ht2 => ?_⟩⟩
    have f5 : Fr c0 H4 (upd H4 t2 (.tup [.ref q])) := Fr.new ht2
    have nds : dsp.map V.ref ≠ [] := fun z => nePB (List.eq_nil_of_length_eq_zero (by have := congrArg List.length z; simp at this; rw [← q2, this]; rfl))
    refine ⟨pb, t2, _, [.ref q], rfl, rfl, f5.sqT q1, SqT.of upd_same, nds, one_sz (by rw [List.length_map, q2]; show PB.length + 1 ≤ 1000; omega), (fun z => by simp at z), fun _ t3 ht3 => ?_⟩
    have f6 : Fr c0 (upd H4 t2 (.tup [.ref q])) (upd (upd H4 t2 (.tup [.ref q])) t3 (.tup (dsp.map V.ref ++ [.ref q]))) := Fr.new ht3
    have f46 := f5.trans f6
    have dx' : ∀ y ∈ e.ns ++ e.ps, hasR (PB ++ [e.ps.zip (os.map (·.v))]) y := fun y hy => by
      rcases List.mem_append.mp hy with z | z
      · exact (dPB y z).app _
      · exact hasR.zip (by omega) z
    refine ⟨_, rfl, p, dx, vb, t3, kn, ar, sa, near, e.b, PB ++ [e.ps.zip (os.map (·.v))], tl, e.ns ++ e.ps, _, _, rfl, f46.at hp4 (fun z => z), TA4.fr f46, ⟨Dp.fr f46 _ _ (tup_enc _) B4, PileAt.snoc (S := SqT K) (S2 := SqT K) (H := H) q2 (fun k d r e1 e2 => f46.at (q3 k d r e1 e2) (fun z => z)) (f46.at hq4 (fun z => z)) (SqT.of upd_same), FunsAt.fr hS (fun _ _ z => z) f46 F4⟩,
      ⟨E5, dx', E12, ePB2.mono fun y hy => hy.app _, by omega, by rw [List.length_append]; show PB.length + 1 + _ ≤ _; omega, by omega, by omega, by rw [List.length_append, List.length_append]; omega, by simp⟩, fun H7 f7 TA7 => ?_⟩
    have ev : dn near (.call f as) (l ++ e :: tl) P = ⟨(dn near e.b tl (PB ++ [e.ps.zip (os.map (·.v))])).v, os.flatMap (·.rows) ++ (dn near e.b tl (PB ++ [e.ps.zip (os.map (·.v))])).rows, os.flatMap (·.said) ++ (dn near e.b tl (PB ++ [e.ps.zip (os.map (·.v))])).said⟩ := by
      simp only [dn, den, hsm, ← hos, ← ePB]
    rw [ev] at k
    exact k H7 (((f2.trans (Fr.of0 f4)).trans (Fr.of0 f46)).trans f7) (by simpa only [List.append_assoc] using TA7)
end BN
namespace BN
open PySem L2 PyProof.Rows
/-! ### a whole run -/
structure RunOk (ins : List Str) (pt : Part) (ns : List Int) : Prop where
  ok : ProgOk ins pt
  len : ns.length = ins.length
  rg : ∀ n ∈ ns, 0 ≤ n ∧ n ≤ 99
  dp : pt.dpt (fun _ => 0) ≤ 130
  cst : pt.cst (fun _ => 0) ≤ 15000000
abbrev mean (near : Bool) (ins : List Str) (pt : Part) (ns : List Int) : Out := dn near pt [] [ins.zip ns]
theorem RunOk.w {ins : List Str} {pt : Part} {ns : List Int} (h : RunOk ins pt ns) : WOk 130 pt [ins.zip ns] [] ins (([] : List Row).length + ([] : List Int).length) := by
  have := h.dp
  have := h.cst
  have := h.ok.wid
  refine ⟨h.ok.ok, fun x hx => ?_, h.ok.iw, trivial, h.dp, ?_, ?_, by omega, ?_, by simp⟩
  · have := hasR.zip (P := []) (by rw [h.len] : ins.length = ns.length) hx
    simpa using this
  · show 1 + pt.dpt (fun _ => 0) ≤ 1000; omega
  · show 0 + pt.dpt (fun _ => 0) ≤ 1000; omega
  · show 0 + 0 + pt.cst (fun _ => 0) ≤ 15000000; omega
def spGone (K : PySem.W.Frag) (C : Addr) : Sp := fun vs H Q _ => ∃ (v : V) (tn : Addr) (me : Str) (ins : List Str) (pt : Part) (ns : List Int), vs = [v, .ref tn, .str me] ∧ Dp K H v (encP ins pt) ∧ SqT K H tn (ns.map V.int) ∧ RunOk ins pt ns ∧
  ∀ (t p dx ar sa : Addr) H', Fr c0 H H' → H p = none → H ar = none → H sa = none → SqT K H' t [.ref p, .int (mean (decide (me = "near")) ins pt ns).v] → H' p = some (.ins C dx (flR (decide (me = "near")) ar sa)) →
    TAt K H' ar sa (mean (decide (me = "near")) ins pt ns).rows (mean (decide (me = "near")) ins pt ns).said → Q (.ref t) H'
def t_gone (K : PySem.W.Frag) (cRms : Addr) : TS :=
  (tSeq (tAsg (tMake cRms (spRmInit cRms) [] C8.E0 (tCons (tVar 2) tNil)) (gName 3))
    (tSeq (tAsg (tCB (rDictP K) (tCons (BNZ.tLZ K (tCons (tOp (rIxT K) (tVar 0) (tC (.int 0))) (tCons (tVar 1) tNil))) tNil)) (gName 4))
    (tRet (tTup (tCons (tVar 3) (tCons (tMeth cRms "work" (spWork K cRms 130) [] C8.E0 (tVar 3) (tCons (tOp (rIxT K) (tVar 0) (tC (.int 1))) (tCons (tTup (tCons (tVar 4) tNil)) (tCons tDNewK tNil)))) tNil))))))
theorem pure_gone {K : PySem.W.Frag} {C : Addr} (T : RmsC K C) (vs : List V) (H : Hp) (Q : VK) (E : XK) (h : spGone K C vs H Q E) : t_gone K C { nx := fun _ H' => Q .non H', rt := Q } (start ["program", "numbers", "meaning", "rooms", "room"] vs) H := by
  obtain ⟨v, tn, me, ins, pt, ns, rfl, hd, hN, O, k⟩ := h
  obtain ⟨t, ti, vp, rfl, hT, hI, dp⟩ := inv_P hd
  refine ⟨_, rfl, fun p dx np ndx ned => ?_⟩
  have f1 : Fr c0 H (upd (upd H dx (.own p)) p (.ins C dx [])) := (Fr.new ndx).trans (Fr.new (by rw [upd_ne ned.symm]; exact np))
  refine ⟨p, dx, me, rfl, upd_same, fun ar sa H2 har hsa hne f2 hp2 ha2 hs2 => ⟨rfl, ?_⟩⟩
  have f12 := f1.hide0 np f2
  have har0 : H ar = none := f1.free _ har
  have hsa0 : H sa = none := f1.free _ hsa
  have TA2 : TAt K H2 ar sa [] [] := ⟨hne, ⟨[], ha2, .nil⟩, hs2⟩
  refine ⟨_, rfl, t, _, _, _, rfl, rfl, f12.sqT hT, rfl, _, rfl, ti, tn, _, _, rfl, .inr (f12.sqT hI), .inr (f12.sqT hN), by rw [List.length_map, List.length_map, O.len], fun H3 L ts f3 hL eL el hts => ⟨L, ts, roomK (ins.zip ns), rfl, SqL.of eL, zip_paired O.len.symm (by rw [el, List.length_map]) (fun j t h => (hts j t h).2.2), fun q hq => ?_⟩⟩
  rw [merge_zip O.ok.nd O.len.symm]
  have f4 : Fr c0 H2 (upd H3 q (.dK (roomK (ins.zip ns)))) := f3.trans (Fr.new hq)
  have hq4 : (upd H3 q (.dK (roomK (ins.zip ns)))) q = some (.dK (roomK (ins.zip ns))) := upd_same
  generalize (upd H3 q (.dK (roomK (ins.zip ns)))) = H4 at f4 hq4 ⊢
  have f04 := f12.trans f4
  have hp4 := f4.at hp2 (fun z => z)
  refine ⟨_, rfl, _, rfl, p, dx, _, rfl, hp4, flR_no _ _ _ (by decide +kernel) (by decide +kernel) (by decide +kernel), _, rfl, t, _, _, _, rfl, rfl, f04.sqT hT, rfl, _, rfl, one_sz (by show 1 ≤ 1000; decide), fun t2 ht2 => fun d hd => ?_⟩
  have f5 : Fr c0 H4 (upd H4 t2 (.tup [.ref q])) := Fr.new ht2
  have f6 : Fr c0 (upd H4 t2 (.tup [.ref q])) (upd (upd H4 t2 (.tup [.ref q])) d (.dK [])) := Fr.new hd
  have f46 := f5.trans f6
  have ht6 := f6.tup (show (upd H4 t2 (.tup [.ref q])) t2 = some (.tup [.ref q]) from upd_same)
  have hd6 : (upd (upd H4 t2 (.tup [.ref q])) d (.dK [])) d = some (.dK []) := upd_same
  generalize (upd (upd H4 t2 (.tup [.ref q])) d (.dK [])) = H6 at f46 ht6 hd6 ⊢
  have f06 := f04.trans f46
  refine ⟨p, dx, vp, t2, d, ar, sa, decide (me = "near"), pt, [ins.zip ns], [], ins, [], [], rfl, f46.at hp4 (fun z => z), (TA2.fr f4).fr f46, ⟨Dp.fr f06 _ _ (tup_enc pt) dp, ⟨[q], SqT.of ht6, rfl, fun k d' r e1 e2 => ?_⟩, hd6⟩, O.w, fun H7 f7 TA7 => ?_⟩
  · cases k with
    | zero =>
      have e1 : q = d' := by simpa using e1
      have e2 : ins.zip ns = r := by simpa using e2
      subst e1 e2
      exact f46.at hq4 (fun z => z)
    | succ k => simp at e1
  · have f07 : Fr c0 H H7 := f06.hide f7 fun a o o' e z => by
      rcases z.1 with rfl | rfl
      · rw [har0] at e; cases e
      · rw [hsa0] at e; cases e
    refine ⟨one_sz (by show 2 ≤ 1000; decide), fun t3 ht3 => ?_⟩
    have f8 : Fr c0 H7 (upd H7 t3 (.tup [.ref p, .int (mean (decide (me = "near")) ins pt ns).v])) := Fr.new ht3
    exact k t3 p dx ar sa _ (f07.trans f8) np har0 hsa0 (SqT.of upd_same) (f8.at (f7.at (f46.at hp4 (fun z => z)) cT_ins) (fun z => z)) (by simpa using TA7.fr f8)
def spRun (K : PySem.W.Frag) : Sp := fun vs H Q _ => ∃ (v : V) (tn : Addr) (me : Str) (ins : List Str) (pt : Part) (ns : List Int), vs = [v, .ref tn, .str me] ∧ Dp K H v (encP ins pt) ∧ SqT K H tn (ns.map V.int) ∧ RunOk ins pt ns ∧ (me = "near" ∨ me = "called") ∧
  ∀ v H', Fr c0 H H' → Dp K H' v (.tuple [.int (mean (decide (me = "near")) ins pt ns).v, .tuple ((mean (decide (me = "near")) ins pt ns).said.map .int)]) → Q v H'
def t_run (K : PySem.W.Frag) (cRms : Addr) : TS :=
  (tSeq (tDrop (tCall (spCheckR K) [] C8.E0 (tCons (tVar 0) (tCons (tVar 1) (tCons (tVar 2) tNil)))))
    (tSeq (tAsg (tCall (spGone K cRms) [] C8.E0 (tCons (tVar 0) (tCons (tVar 1) (tCons (tVar 2) tNil)))) (gTup K 2 (gCons (gName 3) (gCons (gName 4) gNil))))
    (tRet (tTup (tCons (tVar 4) (tCons (tCB (rTupSq K) (tCons (tFld K (tVar 3) "said") tNil)) tNil))))))
theorem pure_run {K : PySem.W.Frag} {C : Addr} (T : RmsC K C) (vs : List V) (H : Hp) (Q : VK) (E : XK) (h : spRun K vs H Q E) : t_run K C { nx := fun _ H' => Q .non H', rt := Q } (start ["program", "numbers", "meaning", "rooms", "number"] vs) H := by
  obtain ⟨v, tn, me, ins, pt, ns, rfl, hd, hN, O, hm, k⟩ := h
  refine ⟨_, rfl, _, rfl, _, rfl, v, tn, me, ins, pt, ns, rfl, hd, O.ok, hN, O.len, O.rg, hm, fun H1 f1 => ?_⟩
  refine ⟨_, rfl, _, rfl, _, rfl, v, tn, me, ins, pt, ns, rfl, Dp.fr f1 _ _ (tup_encP ins pt) hd, f1.sqT hN, O, fun t p dx ar sa H2 f2 np na ns' hT hp TA => ?_⟩
  refine ⟨t, _, rfl, hT, rfl, _, _, rfl, _, _, rfl, rfl, ?_⟩
  refine ⟨_, rfl, _, rfl, p, C, dx, _, _, rfl, hp, T.cl, T.nS, flR_said _ _ _, sa, _, rfl, .inl ⟨SqL.of TA.sd, fun u hu => ?_⟩⟩
  have f3 : Fr c0 H2 (upd H2 u (.tup ((mean (decide (me = "near")) ins pt ns).said.map V.int))) := Fr.new hu
  refine ⟨one_sz (by show 2 ≤ 1000; decide), fun t2 ht2 => ?_⟩
  refine k _ _ (((f1.trans f2).trans f3).trans (Fr.new ht2)) (.tup (SqT.of upd_same) (.cons (.int _) (.cons (.tup (SqT.of ?_) (DpAll.ints _)) .nil)))
  exact (Fr.new (C := c0) ht2).tup upd_same
def spRoomed (K : PySem.W.Frag) : Sp := fun vs H Q _ => ∃ (v : V) (tn : Addr) (me : Str) (ins : List Str) (pt : Part) (ns : List Int), vs = [v, .ref tn, .str me] ∧ Dp K H v (encP ins pt) ∧ SqT K H tn (ns.map V.int) ∧ RunOk ins pt ns ∧ (me = "near" ∨ me = "called") ∧
  ∀ (D : Addr) rv H', Fr c0 H H' → H D = none → H' D = some (.lst rv) → DpAll K H' rv ((mean (decide (me = "near")) ins pt ns).rows.map encRow) → Q (.ref D) H'
def t_roomed (K : PySem.W.Frag) (cRms : Addr) : TS :=
  (tSeq (tDrop (tCall (spCheckR K) [] C8.E0 (tCons (tVar 0) (tCons (tVar 1) (tCons (tVar 2) tNil)))))
    (tRet (tCB (rListSq K) (tCons (tFld K (tOp (rIxT K) (tCall (spGone K cRms) [] C8.E0 (tCons (tVar 0) (tCons (tVar 1) (tCons (tVar 2) tNil)))) (tC (.int 0))) "rows") tNil))))
theorem pure_roomed {K : PySem.W.Frag} {C : Addr} (T : RmsC K C) (vs : List V) (H : Hp) (Q : VK) (E : XK) (h : spRoomed K vs H Q E) : t_roomed K C { nx := fun _ H' => Q .non H', rt := Q } (start ["program", "numbers", "meaning"] vs) H := by
  obtain ⟨v, tn, me, ins, pt, ns, rfl, hd, hN, O, hm, k⟩ := h
  refine ⟨_, rfl, _, rfl, _, rfl, v, tn, me, ins, pt, ns, rfl, hd, O.ok, hN, O.len, O.rg, hm, fun H1 f1 => ?_⟩
  refine ⟨_, rfl, _, rfl, _, rfl, v, tn, me, ins, pt, ns, rfl, Dp.fr f1 _ _ (tup_encP ins pt) hd, f1.sqT hN, O, fun t p dx ar sa H2 f2 np na ns' hT hp TA => ?_⟩
  obtain ⟨rv, e1, e2⟩ := TA.rw
  refine ⟨t, _, _, _, rfl, rfl, hT, rfl, p, C, dx, _, _, rfl, hp, T.cl, T.nR, flR_rows _ _ _, ar, _, rfl, .inl (SqL.of e1), fun D hD => ?_⟩
  have f3 : Fr c0 H2 (upd H2 D (.lst rv)) := Fr.new hD
  exact k D rv _ ((f1.trans f2).trans f3) ((f1.trans f2).free _ hD) upd_same (Dp.frs f3 _ _ (tup_rows _) e2)
end BN
namespace BN
open PySem L2 PyProof.Rows
/-! ### the law's rooms: a room, a reading -/
theorem refs_of {K : PySem.W.Frag} {H : Hp} : ∀ {vs : List V} {ds : List PyData} {F : Nat → PyData → Prop}, DpAll K H vs ds → (∀ (k : Nat) (d : PyData), ds[k]? = some d → F k d) → (∀ k d, F k d → ∃ l, d = .tuple l) →
    ∃ ts : List Addr, vs = ts.map V.ref ∧ ts.length = ds.length ∧ ∀ (k : Nat) (t : Addr), ts[k]? = some t → ∃ xs l, SqT K H t xs ∧ DpAll K H xs l ∧ F k (.tuple l)
  | _, _, F, .nil, _, _ => ⟨[], rfl, rfl, fun k t h => by simp at h⟩
  | _, _, F, .cons (ds := ds) h1 t, hF, hl => by
    obtain ⟨l, rfl⟩ := hl 0 _ (hF 0 _ rfl)
    obtain ⟨a, xs, rfl, hs, ha⟩ := h1.tup_inv
    obtain ⟨ts, rfl, h2, h3⟩ := refs_of (F := fun k => F (k + 1)) t (fun k d hk => hF (k + 1) d (by simpa using hk)) fun k d h => hl _ _ h
    refine ⟨a :: ts, rfl, by simp [h2], fun k t hk => ?_⟩
    cases k with
    | zero =>
      have e : a = t := by simpa using hk
      subst e
      exact ⟨xs, l, hs, ha, hF 0 _ rfl⟩
    | succ k => exact h3 k t (by simpa using hk)
def spLRoom (K : PySem.W.Frag) : Sp := fun vs H Q _ => ∃ (tp tn : Addr) (ps : List Str) (ns : List Int), vs = [.ref tp, .ref tn] ∧ SqT K H tp (ps.map V.str) ∧ (SqL K H tn (ns.map V.int) ∨ SqT K H tn (ns.map V.int)) ∧ ps.length = ns.length ∧ ps.Nodup ∧ ps.length ≤ 1000 ∧
  ∀ (q : Addr) H', Fr c0 H H' → H q = none → H' q = some (.dK (roomK (ps.zip ns))) → Q (.ref q) H'
def t_lroom (K : PySem.W.Frag) : TS :=
  (tRet (tCB (rDictP K) (tCons (tLc (iRng1 (tCons (tCB (rLenSq K) (tCons (tVar 0) tNil)) tNil)) (gName 2) tYes (tTup (tCons (tOp (rIxT K) (tVar 0) (tVar 2)) (tCons (tOp (rIx K) (tVar 1) (tVar 2)) tNil))) [2]) tNil)))
theorem pure_lroom {K : PySem.W.Frag} (vs : List V) (H : Hp) (Q : VK) (E : XK) (h : spLRoom K vs H Q E) : t_lroom K { nx := fun _ H' => Q .non H', rt := Q } (start ["names", "numbers", "k"] vs) H := by
  obtain ⟨tp, tn, ps, ns, rfl, hP, hN, hl, hnd, h1000, k⟩ := h
  refine ⟨_, rfl, tp, _, rfl, .inr hP, ((ps.map V.str).length : Nat), rfl, by rw [List.length_map]; omega, by rw [List.length_map]; omega, ?_⟩
  have ix : ∀ {H' : Hp} {i : Nat} {y : Int} {σ : L2.St} {R : VK}, (SqL K H' tn (ns.map V.int) ∨ SqT K H' tn (ns.map V.int)) → ns[i]? = some y → σ[1]? = some (some (.ref tn)) → σ[2]? = some (some (.int (0 + (i : Nat)))) → R (.int y) H' → tOp (rIx K) (tVar 1) (tVar 2) σ H' R :=
    fun {H' i y σ R} hp hz h1 h2 r => by
      have e : (0 + (i : Nat) : Int) = ((i : Nat) : Int) := Int.zero_add _
      rw [e] at h2
      have hz' : (ns.map V.int)[i]? = some (.int y) := by rw [List.getElem?_map, hz]; rfl
      rcases hp with hp | hp
      · exact ⟨_, h1, _, h2, .inl ⟨tn, _, _, _, rfl, rfl, hp, atI_nat hz', r⟩⟩
      · exact ⟨_, h1, _, h2, .inr (.inl ⟨tn, _, _, _, rfl, rfl, hp, atI_nat hz', r⟩)⟩
  refine lcG_range (K := K) (n := (ps.map V.str).length) (C := c0) (I := fun _ => True) (Good := fun i d => ∃ x y, ps[i]? = some x ∧ ns[i]? = some y ∧ d = .tuple [.str x, .int y]) (fun _ _ _ _ _ => trivial) (fun _ _ _ z => z) trivial (by rw [List.length_map]; omega) (fun i hi H' f' _ Q' hQ => ?_) fun D vs ds H2 hD e da dl dg f2 _ => ?_
  · rw [List.length_map] at hi
    obtain ⟨x, hx⟩ := get_lt hi
    obtain ⟨y, hy⟩ := get_lt (l := ns) (i := i) (by omega)
    have hx' : (ps.map V.str)[i]? = some (.str x) := by rw [List.getElem?_map, hx]; rfl
    have e0 : (0 + (i : Nat) : Int) = ((i : Nat) : Int) := Int.zero_add _
    refine ⟨_, rfl, _, rfl, tp, _, _, _, rfl, rfl, f'.sqT hP, by rw [e0]; exact atI_nat hx', ?_⟩
    refine ix (hN.imp (fun z => f'.sqL (fun _ z => z) z) (fun z => f'.sqT z)) hy rfl rfl ⟨one_sz (by show 2 ≤ 1000; decide), fun t ht => ?_⟩
    exact hQ (.tuple [.str x, .int y]) _ _ ⟨x, y, hx, hy, rfl⟩ rfl (.tup (SqT.of upd_same) (.cons (.str _) (.cons (.int _) .nil))) (Fr.new ht) trivial
  · obtain ⟨ts, rfl, h2, h3⟩ := refs_of (F := fun i d => ∃ x y, ps[i]? = some x ∧ ns[i]? = some y ∧ d = .tuple [.str x, .int y]) da (fun k d hk => (dg k d hk).1) fun k d ⟨x, y, _, _, e⟩ => ⟨_, e⟩
    rw [List.length_map] at dl
    refine ⟨D, ts, roomK (ps.zip ns), rfl, SqL.of e, ?_, fun q hq => ?_⟩
    · refine paired_of (by unfold roomK; rw [List.length_map, List.length_zip]; omega) fun j t kv e1 e2 => ?_
      obtain ⟨xs, l, g1, g2, x, y, g3, g4, g5⟩ := h3 j t e1
      cases g5
      obtain ⟨a, b, rfl, d1, d2⟩ := all2 g2
      cases d1; cases d2
      unfold roomK at e2
      obtain ⟨⟨a, b⟩, g6, rfl⟩ := map_at e2
      rw [List.getElem?_zip_eq_some] at g6
      rw [g3] at g6; rw [g4] at g6
      cases g6.1; cases g6.2
      exact g1
    · rw [merge_zip hnd hl]
      exact k q _ (f2.trans (Fr.new hq)) (f2.free _ hq) upd_same
/-! ### a reading -/
def SL (r1 r2 : Addr) : PS' := fun H a xs => H a = some (.lst xs) ∧ a ≠ r1 ∧ a ≠ r2
theorem stayL {r1 r2 : Addr} : PStay (SL r1 r2) (cT r1 r2) := fun _ _ _ _ f h => ⟨f.at h.1 fun z => by rcases z.1 with z | z; exact h.2.1 z; exact h.2.2 z, h.2⟩
theorem stayL0 {r1 r2 : Addr} : PStay (SL r1 r2) c0 := fun _ _ _ _ f h => ⟨f.at h.1 fun z => z, h.2⟩
def hasAt (P : List Room) (x : Str) (k : Nat) : Bool := match P[k]? with | some r => (r.lookup x).isSome | none => false
theorem filt_nil {α : Type} {f : α → Bool} : ∀ {l : List α}, (∀ a ∈ l, f a = false) → l.filter f = []
  | [], _ => rfl
  | a :: l, h => by rw [List.filter_cons_of_neg (by rw [h a (List.mem_cons_self ..)]; decide), filt_nil fun b hb => h b (List.mem_cons_of_mem _ hb)]
theorem has_filt {P : List Room} {x : Str} (h : hasR P x) : (List.range P.length).filter (hasAt P x) = (List.range (P.length - 1 - (rd P x).1)).filter (hasAt P x) ++ [P.length - 1 - (rd P x).1] := by
  obtain ⟨r, l1, a1, b1⟩ := rd_at h
  have e : P.length = (P.length - 1 - (rd P x).1 + 1) + (rd P x).1 := by omega
  have e1 : List.range P.length = List.range (P.length - 1 - (rd P x).1 + 1) ++ (List.range (rd P x).1).map (P.length - 1 - (rd P x).1 + 1 + ·) := by
    conv => lhs; rw [e]
    exact List.range_add
  rw [e1, List.filter_append, List.range_succ, List.filter_append]
  have e2 : ((List.range (rd P x).1).map (P.length - 1 - (rd P x).1 + 1 + ·)).filter (hasAt P x) = [] := by
    refine filt_nil fun k hk => ?_
    obtain ⟨j, hj, rfl⟩ := List.mem_map.mp hk
    have hj := List.mem_range.mp hj
    obtain ⟨r', l2, a2, b2⟩ := rd_lt (P := P) (x := x) (k := (rd P x).1 - 1 - j) (by omega)
    have ei : P.length - 1 - ((rd P x).1 - 1 - j) = P.length - 1 - (rd P x).1 + 1 + j := by omega
    rw [ei] at a2
    simp only [hasAt, a2, b2]; rfl
  have e3 : [P.length - 1 - (rd P x).1].filter (hasAt P x) = [P.length - 1 - (rd P x).1] := by
    rw [List.filter_cons_of_pos (by simp only [hasAt, a1, b1]; rfl)]; rfl
  rw [e2, e3, List.append_nil]
def spLRead (K : PySem.W.Frag) : Sp := fun vs H Q _ => ∃ (x : Str) (ap told r1 r2 : Addr) (P : List Room) (rows : List Row) (said : List Int), vs = [.str x, .ref ap, .ref told] ∧ SqT K H told [.ref r1, .ref r2] ∧
  TAt K H r1 r2 rows said ∧ PileAt (SL r1 r2) H ap P ∧ hasR P x ∧ P.length ≤ 1000 ∧ rows.length < 16000000 ∧
  ∀ H', Fr (cT r1 r2) H H' → TAt K H' r1 r2 (rows ++ [(x, (rd P x).1, (rd P x).2)]) said → Q (.int (rd P x).2) H'
def t_lread (K : PySem.W.Frag) : TS :=
  (tSeq (tAsg (tLc (iRng1 (tCons (tCB (rLenSq K) (tCons (tVar 1) tNil)) tNil)) (gName 4) (tB (tDIn (tVar 0) (tOp (rIxL K) (tVar 1) (tVar 4)))) (tVar 4) [4]) (gName 3))
    (tSeq (tDrop (tBM K "list" rAppend (tOp (rIxT K) (tVar 2) (tC (.int 0))) (tCons (tTup (tCons (tVar 0) (tCons (tOp oSub (tOp oSub (tCB (rLenSq K) (tCons (tVar 1) tNil)) (tC (.int 1))) (tOp (rIxL K) (tVar 3) (tUn oNeg (tC (.int 1))))) (tCons (tDGet (tOp (rIxL K) (tVar 1) (tOp (rIxL K) (tVar 3) (tUn oNeg (tC (.int 1))))) (tVar 0)) tNil)))) tNil)))
    (tRet (tDGet (tOp (rIxL K) (tVar 1) (tOp (rIxL K) (tVar 3) (tUn oNeg (tC (.int 1))))) (tVar 0)))))
theorem pure_lread {K : PySem.W.Frag} (vs : List V) (H : Hp) (Q : VK) (E : XK) (h : spLRead K vs H Q E) : t_lread K { nx := fun _ H' => Q .non H', rt := Q } (start ["name", "pile", "told", "some", "k"] vs) H := by
  obtain ⟨x, ap, told, r1, r2, P, rows, said, rfl, hTo, TA, PA, hx, hl, hn, k⟩ := h
  obtain ⟨ds, h1, h2, h3⟩ := PA.ex
  have room : ∀ {j : Nat} {r : Room}, P[j]? = some r → ∃ d : Addr, atI (ds.map V.ref) (j : Int) = some (.ref d) ∧ H d = some (.dK (roomK r)) := fun {j r} e => by
    have lt : j < ds.length := by have := at_lt e; omega
    obtain ⟨d, hd⟩ := get_lt lt
    exact ⟨d, atI_nat (by rw [List.getElem?_map, hd]; rfl), h3 _ d r hd e⟩
  have hA : SqL K H ap (ds.map V.ref) := SqL.of h1.1
  have lm : (ds.map V.ref).length = P.length := by rw [List.length_map, h2]
  refine ⟨_, rfl, ap, _, rfl, .inl hA, ((ds.map V.ref).length : Nat), rfl, by omega, by omega, ?_⟩
  intro D hD
  refine lc_range (lo := 0) (n := (ds.map V.ref).length) (fun i H' => H' D = some (.lst (((List.range i).filter (hasAt P x)).map fun k : Nat => V.int (k : Int))) ∧ Fr c0 H H') ⟨upd_same, Fr.new hD⟩ (fun i H' hi ⟨g1, g2⟩ => ⟨wipe1 _ _ _, ?_⟩) fun H' ⟨g1, g2⟩ => ?_
  · rw [lm] at hi
    obtain ⟨r, hr⟩ := get_lt hi
    obtain ⟨d, e1, e2⟩ := room hr
    have e0 : (0 + (i : Nat) : Int) = ((i : Nat) : Int) := Int.zero_add _
    refine ⟨_, rfl, _, rfl, _, rfl, ap, _, _, _, rfl, rfl, g2.sqL (fun _ z => z) hA, by rw [e0]; exact e1, d, _, rfl, DGet.k (k := Sum.inr x) (g2.at e2 (fun z => z)), _, rfl, ?_⟩
    have eh : (valV (roomK r) (Sum.inr x)).isSome = hasAt P x i := by rw [valV_room, hasAt, hr]; simp
    rw [eh]
    have er : (List.range (i + 1)).filter (hasAt P x) = (List.range i).filter (hasAt P x) ++ (if hasAt P x i = true then [i] else []) := by
      rw [List.range_succ, List.filter_append]
      cases q : hasAt P x i <;> simp [q]
    cases q : hasAt P x i with
    | true =>
      refine iteT ⟨_, rfl, _, g1, ?_, ?_, g2.fresh hD⟩
      · refine Nat.lt_of_le_of_lt (m := 1000) ?_ (small1000 (Nat.le_refl _))
        rw [List.length_map]
        have := List.length_filter_le (hasAt P x) (List.range i)
        rw [List.length_range] at this
        omega
      · rw [er, q, e0, List.map_append]; exact upd_same
    | false =>
      refine iteF ⟨?_, g2⟩
      rw [er, q]; simpa using g1
  · rw [lm, has_filt hx, List.map_append] at g1
    obtain ⟨r, l1, a1, b1⟩ := rd_at hx
    obtain ⟨d, e1, e2⟩ := room a1
    have e2' := g2.at e2 (fun z => z)
    have hA' := g2.sqL (fun _ z => z) hA
    have TA' := TA.fr g2
    have ev : valV (roomK r) (Sum.inr x) = some (.int (rd P x).2) := by rw [valV_room, b1]; rfl
    obtain ⟨rv, t1, t2⟩ := TA'.rw
    have lr : rv.length = rows.length := by rw [t2.len, List.length_map]
    have hL := atI_last (((List.range (P.length - 1 - (rd P x).1)).filter (hasAt P x)).map fun k : Nat => V.int (k : Int)) (V.int ((P.length - 1 - (rd P x).1 : Nat) : Int))
    have gD : ∀ {H2 : Hp}, Fr c0 H' H2 → SqL K H2 D (((List.range (P.length - 1 - (rd P x).1)).filter (hasAt P x)).map (fun k : Nat => V.int (k : Int)) ++ [V.int ((P.length - 1 - (rd P x).1 : Nat) : Int)]) := fun f => SqL.of (f.at g1 (fun z => z))
    refine ⟨_, rfl, told, _, _, _, rfl, rfl, g2.sqT hTo, rfl, .inl ⟨rfl, _, SqL.of t1⟩, ?_⟩
    refine ⟨_, rfl, _, rfl, ap, _, rfl, .inl hA', _, _, rfl, rfl, _, rfl, _, rfl, D, _, _, _, rfl, rfl, gD (Fr.refl _), hL, _, _, rfl, rfl, ?_⟩
    refine ⟨_, rfl, _, rfl, _, rfl, D, _, _, _, rfl, rfl, gD (Fr.refl _), hL, ap, _, _, _, rfl, rfl, hA', e1, _, rfl, d, _, rfl, by have := DGet.k (k := Sum.inr x) e2'; rw [ev] at this; exact this, ?_⟩
    refine ⟨one_sz (by show 3 ≤ 1000; decide), fun t ht => ?_⟩
    have en : ((((ds.map V.ref).length : Nat) : Int) - 1) - ((P.length - 1 - (rd P x).1 : Nat) : Int) = ((rd P x).1 : Int) := by rw [lm]; omega
    simp only [en]
    have f1 : Fr c0 H' (upd H' t (.tup [.str x, .int ((rd P x).1 : Int), .int (rd P x).2])) := Fr.new ht
    have t1' := f1.at t1 (fun z => z)
    refine ⟨r1, rv, _, rfl, rfl, t1', Nat.lt_of_lt_of_le (m := 16000000) (by omega) (by rw [sizeLine_eq]; decide), ?_⟩
    have f2 : Fr (cT r1 r2) (upd H' t (.tup [.str x, .int ((rd P x).1 : Int), .int (rd P x).2])) (upd (upd H' t (.tup [.str x, .int ((rd P x).1 : Int), .int (rd P x).2])) r1 (.lst (rv ++ [.ref t]))) := Fr.set t1' ⟨.inl rfl, _, rfl⟩ trivial
    have T2 := (TA'.fr f1).row t1' upd_same
    have f3 := (Fr.of0 (C := cT r1 r2) f1).trans f2
    have nD : ∀ o, ¬ cT r1 r2 D o := fun o z => by
      rcases z.1 with z | z
      · obtain ⟨rv0, u1, _⟩ := TA.rw
        rw [z, u1] at hD; cases hD
      · rw [z, TA.sd] at hD; cases hD
    have nA : ∀ o, ¬ cT r1 r2 ap o := fun o z => by
      rcases z.1 with z | z
      · exact h1.2.1 z
      · exact h1.2.2 z
    refine ⟨_, rfl, _, rfl, _, rfl, D, _, _, _, rfl, rfl, SqL.of (f3.at g1 (nD _)), hL, ap, _, _, _, rfl, rfl, f3.sqL nA hA', e1, _, rfl, d, _, rfl, by have := DGet.k (k := Sum.inr x) (f3.at e2' cT_dK); rw [ev] at this; exact this, ?_⟩
    exact k _ ((Fr.of0 g2).trans f3) T2
end BN
namespace BN
open PySem L2 PyProof.Rows
/-! ### work of the law -/
def spLWork (K : PySem.W.Frag) (n : Nat) : Sp := fun vs H Q _ => ∃ (v : V) (ap af told r1 r2 : Addr) (near : Bool) (pt : Part) (P : List Room) (fe : List Fn) (ns : List Str) (rows : List Row) (said : List Int), vs = [v, .ref ap, .ref af, .ref told, .bl near] ∧
  SqT K H told [.ref r1, .ref r2] ∧ TAt K H r1 r2 rows said ∧ WAt (SL r1 r2) K H v ap af pt P fe ∧ WOk n pt P fe ns (rows.length + said.length) ∧
  ∀ H', Fr (cT r1 r2) H H' → TAt K H' r1 r2 (rows ++ (dn near pt fe P).rows) (said ++ (dn near pt fe P).said) → Q (.int (dn near pt fe P).v) H'
def spLCall (K : PySem.W.Frag) (n : Nat) : Sp := fun vs H Q _ => ∃ (v : V) (ap af told r1 r2 : Addr) (near : Bool) (f : Str) (as : Parts) (P : List Room) (fe : List Fn) (ns : List Str) (rows : List Row) (said : List Int), vs = [v, .ref ap, .ref af, .ref told, .bl near] ∧
  SqT K H told [.ref r1, .ref r2] ∧ TAt K H r1 r2 rows said ∧ WAt (SL r1 r2) K H v ap af (.call f as) P fe ∧ WOk (n + 1) (.call f as) P fe ns (rows.length + said.length) ∧
  ∀ H', Fr (cT r1 r2) H H' → TAt K H' r1 r2 (rows ++ (dn near (.call f as) fe P).rows) (said ++ (dn near (.call f as) fe P).said) → Q (.int (dn near (.call f as) fe P).v) H'
def t_lwork (K : PySem.W.Frag) (n : Nat) : TS :=
  (tSeq (tAsg (tOp (rIxT K) (tVar 0) (tC (.int 0))) (gName 5))
    (tSeq (tIfS (tTest (tOp rEq (tVar 5) (tC (.str "num")))) (tRet (tOp (rIxT K) (tVar 0) (tC (.int 1)))) tNext)
    (tSeq (tIfS (tTest (tOp rEq (tVar 5) (tC (.str "name")))) (tRet (tCall (spLRead K) [] C8.E0 (tCons (tOp (rIxT K) (tVar 0) (tC (.int 1))) (tCons (tVar 1) (tCons (tVar 3) tNil))))) tNext)
    (tSeq (tIfS (tTest (tOp rEq (tVar 5) (tC (.str "call")))) (tRet (tCall (spLCall K n) [] C8.E0 (tCons (tVar 0) (tCons (tVar 1) (tCons (tVar 2) (tCons (tVar 3) (tCons (tVar 4) tNil))))))) tNext)
    (tSeq (tIfS (tTest (tOp rEq (tVar 5) (tC (.str "fun")))) (tSeq (tAsg (tCB rDictD (tCons (tVar 2) tNil)) (gName 6))
    (tSeq (sDPut (tVar 6) (tOp (rIxT K) (tVar 0) (tC (.int 1))) (tTup (tCons (tOp (rIxT K) (tVar 0) (tC (.int 2))) (tCons (tOp (rIxT K) (tVar 0) (tC (.int 3))) (tCons (tVar 1) (tCons (tVar 2) tNil))))))
    (tRet (tCall (spLWork K n) [] C8.E0 (tCons (tOp (rIxT K) (tVar 0) (tC (.int 4))) (tCons (tVar 1) (tCons (tVar 6) (tCons (tVar 3) (tCons (tVar 4) tNil))))))))) tNext)
    (tSeq (tIfS (tTest (tOp rEq (tVar 5) (tC (.str "let")))) (tSeq (tAsg (tCall (spLWork K n) [] C8.E0 (tCons (tOp (rIxT K) (tVar 0) (tC (.int 2))) (tCons (tVar 1) (tCons (tVar 2) (tCons (tVar 3) (tCons (tVar 4) tNil)))))) (gName 7))
    (tRet (tCall (spLWork K n) [] C8.E0 (tCons (tOp (rIxT K) (tVar 0) (tC (.int 3))) (tCons (tOp rCat (tVar 1) (tLst (tCons (tDisp [((tOp (rIxT K) (tVar 0) (tC (.int 1))), (tVar 7))]) tNil))) (tCons (tVar 2) (tCons (tVar 3) (tCons (tVar 4) tNil)))))))) tNext)
    (tSeq (tAsg (tCall (spLWork K n) [] C8.E0 (tCons (tOp (rIxT K) (tVar 0) (tC (.int 1))) (tCons (tVar 1) (tCons (tVar 2) (tCons (tVar 3) (tCons (tVar 4) tNil)))))) (gName 7))
    (tSeq (tIfS (tTest (tOp rEq (tVar 5) (tC (.str "say")))) (tDrop (tBM K "list" rAppend (tOp (rIxT K) (tVar 3) (tC (.int 1))) (tCons (tVar 7) tNil))) tNext)
    (tSeq (tIfS (tTest (tOp rEq (tVar 5) (tC (.str "if")))) (tRet (tCall (spLWork K n) [] C8.E0 (tCons (tOp (rIxT K) (tVar 0) (tOp oAdd (tC (.int 2)) (tCB rInt1 (tCons (tOp rEq (tVar 7) (tC (.int 0))) tNil)))) (tCons (tVar 1) (tCons (tVar 2) (tCons (tVar 3) (tCons (tVar 4) tNil))))))) tNext)
    (tSeq (tIfS (tTest (tOp (rIn K false) (tVar 5) (tTup (tCons (tC (.str "add")) (tCons (tC (.str "less")) tNil))))) (tSeq (tAsg (tCall (spLWork K n) [] C8.E0 (tCons (tOp (rIxT K) (tVar 0) (tC (.int 2))) (tCons (tVar 1) (tCons (tVar 2) (tCons (tVar 3) (tCons (tVar 4) tNil)))))) (gName 8))
    (tRet (tOp (rIxL K) (tLst (tCons (tOp oMod (tOp oAdd (tVar 7) (tVar 8)) (tC (.int 100))) (tCons (tCB rInt1 (tCons (tOp oLt (tVar 7) (tVar 8)) tNil)) tNil))) (tCB rInt1 (tCons (tOp rEq (tVar 5) (tC (.str "less"))) tNil))))) tNext)
    (tRet (tVar 7))))))))))))
theorem pure_lwork {K : PySem.W.Frag} {n : Nat} (vs : List V) (H : Hp) (Q : VK) (E : XK) (h : spLWork K (n + 1) vs H Q E) : t_lwork K n { nx := fun _ H' => Q .non H', rt := Q } (start ["part", "pile", "funs", "told", "near", "word", "known", "first", "other"] vs) H := by
  obtain ⟨v, ap, af, told, r1, r2, near, pt, P, fe, ns, rows, said, rfl, hTo, TA, W, O, k⟩ := h
  have hS : PStay (SL r1 r2) (cT r1 r2) := stayL
  have hS0 : PStay (SL r1 r2) c0 := stayL0
  have hC : ∀ c kvs, ¬ cT r1 r2 c (.dK kvs) := fun _ _ => cT_dK
  have hC0 : ∀ c kvs, ¬ c0 c (.dK kvs) := fun _ _ z => z
  have nl : ∀ {a : Addr}, H a = none → a ≠ r1 ∧ a ≠ r2 := fun {a} h => by
    obtain ⟨rv, h1, _⟩ := TA.rw
    exact ⟨fun z => (by rw [z, h1] at h; cases h), fun z => (by rw [z, TA.sd] at h; cases h)⟩
  obtain ⟨t, xs, rfl, hT, hx⟩ := inv_head W.v
  refine ⟨_, rfl, t, _, _, _, rfl, rfl, hT, atI_nat (j := 0) rfl, ?_⟩
  have o1 := O.dp; have o2 := O.pl; have o3 := O.fl; have o4 := O.wid; have o5 := O.cst
  cases pt with
  | num m =>
    obtain ⟨t', e, hT3⟩ := inv_num W.v
    cases e
    refine ⟨_, rfl, rfl, _, rfl, ifT (by kernel_rfl) ?_⟩
    exact ⟨_, rfl, t, _, _, _, rfl, rfl, hT3, rfl, k H (Fr.refl _) (by simpa [dn, den] using TA)⟩
  | name x =>
    obtain ⟨t', e, hT3⟩ := inv_name W.v
    cases e
    have hok := O.ok
    simp only [Part.ok] at hok
    simp only [Part.cst] at o5
    refine ⟨_, rfl, rfl, _, rfl, ifF (by kernel_rfl) ?_⟩
    refine ⟨_, rfl, rfl, _, rfl, ifT (by kernel_rfl) ?_⟩
    refine ⟨_, rfl, t, _, _, _, rfl, rfl, hT3, rfl, _, rfl, _, rfl, x, ap, told, r1, r2, P, rows, said, rfl, hTo, TA, W.p, O.dom x hok, by omega, by omega, fun H' f t => ?_⟩
    exact k H' f (by simpa [dn, den] using t)
  | call f as =>
    refine ⟨_, rfl, rfl, _, rfl, ifF (by kernel_rfl) ?_⟩
    refine ⟨_, rfl, rfl, _, rfl, ifF (by kernel_rfl) ?_⟩
    refine ⟨_, rfl, rfl, _, rfl, ifT (by kernel_rfl) ?_⟩
    exact ⟨_, rfl, _, rfl, _, rfl, _, rfl, _, rfl, .ref t, ap, af, told, r1, r2, near, f, as, P, fe, ns, rows, said, rfl, hTo, TA, W, O, k⟩
  | fn f ps b r =>
    obtain ⟨t', tp, vb, vr, e, hT3, hTp, db, dr⟩ := inv_fn W.v
    cases e
    have hok := O.ok
    simp only [Part.ok] at hok
    simp only [Part.dpt] at o1 o2 o3
    simp only [Part.wid] at o4
    simp only [Part.cst] at o5
    refine ⟨_, rfl, rfl, _, rfl, ifF (by kernel_rfl) ?_⟩
    refine ⟨_, rfl, rfl, _, rfl, ifF (by kernel_rfl) ?_⟩
    refine ⟨_, rfl, rfl, _, rfl, ifF (by kernel_rfl) ?_⟩
    refine ⟨_, rfl, rfl, _, rfl, ifT (by kernel_rfl) ?_⟩
    obtain ⟨kvs, hk, hkl⟩ := W.f.dict
    refine ⟨_, rfl, af, kvs, rfl, .inl hk, fun kn hkn => ?_⟩
    have f1 : Fr c0 H (upd H kn (.dK kvs)) := Fr.new hkn
    have hT4 := f1.sqT hT3
    refine ⟨_, rfl, t, _, _, _, rfl, rfl, hT4, rfl, _, rfl, t, _, _, _, rfl, rfl, hT4, rfl, _, rfl, _, rfl, one_sz (by show 4 ≤ 1000; decide), fun tt htt => ?_⟩
    have f2 : Fr c0 (upd H kn (.dK kvs)) (upd (upd H kn (.dK kvs)) tt (.tup [.ref tp, vb, .ref ap, .ref af])) := Fr.new htt
    have nkt : kn ≠ tt := ne_of_none upd_same htt
    refine ⟨_, rfl, _, rfl, t, _, _, _, rfl, rfl, f2.sqT hT4, rfl, kn, _, rfl, DPut.k (k := Sum.inr f) (by rw [upd_ne nkt, upd_same]) (Nat.lt_of_lt_of_le (m := 2000) (by omega) (by rw [sizeLine_eq]; decide)), ?_⟩
    have f3 : Fr c0 H (upd (upd (upd H kn (.dK kvs)) tt (.tup [.ref tp, vb, .ref ap, .ref af])) kn (.dK (putK kvs (Sum.inr f) (.ref tt)))) := (f1.trans f2).fresh hkn
    have htt3 : (upd (upd (upd H kn (.dK kvs)) tt (.tup [.ref tp, vb, .ref ap, .ref af])) kn (.dK (putK kvs (Sum.inr f) (.ref tt)))) tt = some (.tup [.ref tp, vb, .ref ap, .ref af]) := by rw [upd_ne nkt.symm, upd_same]
    have hkn3 : (upd (upd (upd H kn (.dK kvs)) tt (.tup [.ref tp, vb, .ref ap, .ref af])) kn (.dK (putK kvs (Sum.inr f) (.ref tt)))) kn = some (.dK (putK kvs (Sum.inr f) (.ref tt))) := upd_same
    generalize (upd (upd (upd H kn (.dK kvs)) tt (.tup [.ref tp, vb, .ref ap, .ref af])) kn (.dK (putK kvs (Sum.inr f) (.ref tt)))) = H3 at f3 htt3 hkn3 ⊢
    have W3 := W.fr hS0 hC0 f3
    refine ⟨_, rfl, t, _, _, _, rfl, rfl, f3.sqT hT3, rfl, _, rfl, _, rfl, _, rfl, _, rfl, vr, ap, kn, told, r1, r2, near, r, P, ⟨f, ps, b, P, ns⟩ :: fe, ns, rows, said, rfl, f3.sqT hTo, TA.fr f3, ⟨Dp.fr f3 _ _ (tup_enc r) dr, W3.p,
      ⟨af, tt, tp, ap, vb, kvs, W3.f, f3.at hk (fun z => z), hkn3, SqT.of htt3, f3.sqT hTp, Dp.fr f3 _ _ (tup_enc b) db, W3.p⟩⟩,
      ⟨hok.2.2.2.2.2, O.dom, O.nw, ⟨O.env, O.env, O.dom, O.dom, hok.2.2.2.2.1, hok.2.2.1, hok.2.1, by show P.length + 1 + b.dpt (dlt fe) ≤ 1000; omega, by show fe.length + b.dpt (dlt fe) ≤ 1000; omega, by show b.wid ≤ 1000; omega, O.ne, fun x hx => ?_⟩, by simp only [dlt]; omega, by simp only [dlt]; omega, by simp only [dlt, List.length_cons]; omega, by omega, by simp only [cnt]; omega, O.ne⟩, fun H' f' t => ?_⟩
    · rcases List.mem_append.mp hx with z | z
      · exact O.nw x z
      · exact hok.2.2.2.1 x z
    · exact k H' ((Fr.of0 f3).trans f') t
  | lt x a b =>
    obtain ⟨t', va, vb, e, hT3, da, db⟩ := inv_lt W.v
    cases e
    have hok := O.ok
    simp only [Part.ok] at hok
    simp only [Part.dpt] at o1 o2 o3
    simp only [Part.wid] at o4
    simp only [Part.cst] at o5
    simp only [dn, den, Out.bnd] at k
    refine ⟨_, rfl, rfl, _, rfl, ifF (by kernel_rfl) ?_⟩
    refine ⟨_, rfl, rfl, _, rfl, ifF (by kernel_rfl) ?_⟩
    refine ⟨_, rfl, rfl, _, rfl, ifF (by kernel_rfl) ?_⟩
    refine ⟨_, rfl, rfl, _, rfl, ifF (by kernel_rfl) ?_⟩
    refine ⟨_, rfl, rfl, _, rfl, ifT (by kernel_rfl) ?_⟩
    have l1 := dn_len near a fe P
    refine ⟨_, rfl, t, _, _, _, rfl, rfl, hT3, rfl, _, rfl, _, rfl, _, rfl, _, rfl, ?_⟩
    refine ⟨va, ap, af, told, r1, r2, near, a, P, fe, ns, rows, said, rfl, hTo, TA, ⟨da, W.p, W.f⟩, ⟨hok.2.1, O.dom, O.nw, O.env, by omega, by omega, by omega, by omega, by omega, O.ne⟩, fun H1 f1 TA1 => ?_⟩
    have W1 := W.fr hS hC f1
    refine ⟨_, rfl, t, _, _, _, rfl, rfl, f1.sqT hT3, rfl, _, rfl, fun d hd => ?_⟩
    have f2 : Fr c0 H1 (upd H1 d (.dK [])) := Fr.new hd
    refine ⟨_, rfl, t, _, _, _, rfl, rfl, (f1.trans (Fr.of0 f2)).sqT hT3, rfl, _, rfl, upd_same, [(Sum.inr x, .int (dn near a fe P).v)], rfl, (by show 1 ≤ 15; decide), ?_⟩
    have f3 : Fr c0 H1 (upd (upd H1 d (.dK [])) d (.dK (mergeK [] [(Sum.inr x, .int (dn near a fe P).v)]))) := f2.fresh hd
    have hd3 : (upd (upd H1 d (.dK [])) d (.dK (mergeK [] [(Sum.inr x, .int (dn near a fe P).v)]))) d = some (.dK (roomK [(x, (dn near a fe P).v)])) := by rw [upd_same]; rfl
    generalize (upd (upd H1 d (.dK [])) d (.dK (mergeK [] [(Sum.inr x, .int (dn near a fe P).v)]))) = H3 at f3 hd3 ⊢
    obtain ⟨ds, q1, q2, q3⟩ := (W1.p.fr hS0 hC0 f3).ex
    refine ⟨one_sz (by show 1 ≤ 1000; decide), fun t2 ht2 => ?_⟩
    have f4 : Fr c0 H3 (upd H3 t2 (.lst [.ref d])) := Fr.new ht2
    refine ⟨ap, t2, _, [.ref d], rfl, rfl, f4.at q1.1 (fun z => z), upd_same, one_sz (by rw [List.length_map, q2]; show P.length + 1 ≤ 1000; omega), fun t3 ht3 => ?_⟩
    have f5 : Fr c0 (upd H3 t2 (.lst [.ref d])) (upd (upd H3 t2 (.lst [.ref d])) t3 (.lst (ds.map V.ref ++ [.ref d]))) := Fr.new ht3
    have f35 := f4.trans f5
    have f15 := f3.trans f35
    have f05 := f1.trans (Fr.of0 f15)
    have W5 := W1.fr hS0 hC0 f15
    have nt3 := nl (f1.free _ ((f3.trans f4).free _ ht3))
    have wx : ∀ y ∈ ns ++ [x], wordB y = true := fun y hy => by
      rcases List.mem_append.mp hy with z | z
      · exact O.nw y z
      · rw [List.mem_singleton.mp z]; exact hok.1
    have dx' : ∀ y ∈ ns ++ [x], hasR (P ++ [[(x, (dn near a fe P).v)]]) y := fun y hy => by
      rcases List.mem_append.mp hy with z | z
      · exact (O.dom y z).app _
      · rw [List.mem_singleton.mp z]; exact hasR.one _ _ _
    refine ⟨_, rfl, _, rfl, _, rfl, ?_⟩
    refine ⟨vb, t3, af, told, r1, r2, near, b, P ++ [[(x, (dn near a fe P).v)]], fe, ns ++ [x], rows ++ (dn near a fe P).rows, said ++ (dn near a fe P).said, rfl, f05.sqT hTo, TA1.fr f15, ⟨Dp.fr f05 _ _ (tup_enc b) db,
      PileAt.snoc (S := SL r1 r2) (S2 := SL r1 r2) (H := H) q2 (fun k d r e1 e2 => f35.at (q3 k d r e1 e2) (fun z => z)) (f35.at hd3 (fun z => z)) ⟨upd_same, nt3⟩, W5.f⟩,
      ⟨hok.2.2, dx', wx, O.env.mono fun y hy => hy.app _, by omega, by rw [List.length_append]; show P.length + 1 + _ ≤ _; omega, by omega, by omega, by rw [List.length_append, List.length_append]; omega, by simp⟩, fun H6 f6 TA6 => ?_⟩
    exact k H6 (f05.trans f6) (by simpa only [dn, List.append_assoc] using TA6)
  | say a =>
    obtain ⟨t', va, e, hT3, da⟩ := inv_say W.v
    cases e
    have hok := O.ok
    simp only [Part.ok] at hok
    simp only [Part.dpt] at o1 o2 o3
    simp only [Part.wid] at o4
    simp only [Part.cst] at o5
    simp only [dn, den, Out.bnd] at k
    refine ⟨_, rfl, rfl, _, rfl, ifF (by kernel_rfl) ?_⟩
    refine ⟨_, rfl, rfl, _, rfl, ifF (by kernel_rfl) ?_⟩
    refine ⟨_, rfl, rfl, _, rfl, ifF (by kernel_rfl) ?_⟩
    refine ⟨_, rfl, rfl, _, rfl, ifF (by kernel_rfl) ?_⟩
    refine ⟨_, rfl, rfl, _, rfl, ifF (by kernel_rfl) ?_⟩
    have l1 := dn_len near a fe P
    refine ⟨_, rfl, t, _, _, _, rfl, rfl, hT3, rfl, _, rfl, _, rfl, _, rfl, _, rfl, ?_⟩
    refine ⟨va, ap, af, told, r1, r2, near, a, P, fe, ns, rows, said, rfl, hTo, TA, ⟨da, W.p, W.f⟩, ⟨hok, O.dom, O.nw, O.env, by omega, by omega, by omega, by omega, by omega, O.ne⟩, fun H1 f1 TA1 => ?_⟩
    refine ⟨_, rfl, rfl, _, rfl, ifT (by kernel_rfl) ?_⟩
    refine ⟨_, rfl, told, _, _, _, rfl, rfl, f1.sqT hTo, rfl, .inl ⟨rfl, _, SqL.of TA1.sd⟩, _, rfl, r2, _, _, rfl, rfl, TA1.sd, Nat.lt_of_lt_of_le (m := 16000000) (by rw [List.length_map, List.length_append]; omega) (by rw [sizeLine_eq]; decide), ?_⟩
    refine ⟨_, rfl, rfl, _, rfl, ifF (by kernel_rfl) ?_⟩
    refine ⟨_, rfl, one_sz (by show 2 ≤ 1000; decide), fun t4 ht4 => ⟨t4, _, rfl, .inr (SqT.of upd_same), rfl, rfl, _, rfl, ifF (by kernel_rfl) ?_⟩⟩
    refine ⟨_, rfl, ?_⟩
    refine k _ ((f1.trans (Fr.set TA1.sd ⟨.inr rfl, _, rfl⟩ trivial)).trans (Fr.new ht4)) ?_
    simpa only [dn, List.append_assoc, List.append_nil] using (TA1.say (dn near a fe P).v).fr (Fr.new ht4)
  | ite c a b =>
    obtain ⟨t', vc, va, vb, e, hT3, dc, da, db⟩ := inv_ite W.v
    cases e
    have hok := O.ok
    simp only [Part.ok] at hok
    simp only [Part.dpt] at o1 o2 o3
    simp only [Part.wid] at o4
    simp only [Part.cst] at o5
    simp only [dn, den, Out.bnd] at k
    refine ⟨_, rfl, rfl, _, rfl, ifF (by kernel_rfl) ?_⟩
    refine ⟨_, rfl, rfl, _, rfl, ifF (by kernel_rfl) ?_⟩
    refine ⟨_, rfl, rfl, _, rfl, ifF (by kernel_rfl) ?_⟩
    refine ⟨_, rfl, rfl, _, rfl, ifF (by kernel_rfl) ?_⟩
    refine ⟨_, rfl, rfl, _, rfl, ifF (by kernel_rfl) ?_⟩
    have l1 := dn_len near c fe P
    refine ⟨_, rfl, t, _, _, _, rfl, rfl, hT3, rfl, _, rfl, _, rfl, _, rfl, _, rfl, ?_⟩
    refine ⟨vc, ap, af, told, r1, r2, near, c, P, fe, ns, rows, said, rfl, hTo, TA, ⟨dc, W.p, W.f⟩, ⟨hok.1, O.dom, O.nw, O.env, by omega, by omega, by omega, by omega, by omega, O.ne⟩, fun H1 f1 TA1 => ?_⟩
    have W1 := W.fr hS hC f1
    refine ⟨_, rfl, rfl, _, rfl, ifF (by kernel_rfl) ?_⟩
    refine ⟨_, rfl, rfl, _, rfl, ifT (by kernel_rfl) ?_⟩
    by_cases hz : (dn near c fe P).v = 0
    · have ez : decide (V.int (dn near c fe P).v = V.int 0) = true := by rw [hz]; decide +kernel
      rw [if_pos hz] at k
      refine ⟨_, rfl, _, rfl, rfl, .inr ⟨_, rfl, _, _, rfl, rfl, t, _, _, vb, rfl, rfl, f1.sqT hT3, ?_, _, rfl, _, rfl, _, rfl, _, rfl, ?_⟩⟩
      · rw [ez]; rfl
      refine ⟨vb, ap, af, told, r1, r2, near, b, P, fe, ns, rows ++ (dn near c fe P).rows, said ++ (dn near c fe P).said, rfl, f1.sqT hTo, TA1, ⟨Dp.fr f1 _ _ (tup_enc b) db, W1.p, W1.f⟩, ⟨hok.2.2, O.dom, O.nw, O.env, by omega, by omega, by omega, by omega, by rw [List.length_append, List.length_append]; omega, O.ne⟩, fun H2 f2 TA2 => ?_⟩
      exact k H2 (f1.trans f2) (by simpa only [dn, List.append_assoc] using TA2)
    · have ez : decide (V.int (dn near c fe P).v = V.int 0) = false := decide_eq_false fun z => hz (V.int.inj z)
      rw [if_neg hz] at k
      refine ⟨_, rfl, _, rfl, rfl, .inr ⟨_, rfl, _, _, rfl, rfl, t, _, _, va, rfl, rfl, f1.sqT hT3, ?_, _, rfl, _, rfl, _, rfl, _, rfl, ?_⟩⟩
      · rw [ez]; rfl
      refine ⟨va, ap, af, told, r1, r2, near, a, P, fe, ns, rows ++ (dn near c fe P).rows, said ++ (dn near c fe P).said, rfl, f1.sqT hTo, TA1, ⟨Dp.fr f1 _ _ (tup_enc a) da, W1.p, W1.f⟩, ⟨hok.2.1, O.dom, O.nw, O.env, by omega, by omega, by omega, by omega, by rw [List.length_append, List.length_append]; omega, O.ne⟩, fun H2 f2 TA2 => ?_⟩
      exact k H2 (f1.trans f2) (by simpa only [dn, List.append_assoc] using TA2)
  | add a b =>
    obtain ⟨t', va, vb, e, hT3, da, db⟩ := inv_add W.v
    cases e
    have hok := O.ok
    simp only [Part.ok] at hok
    simp only [Part.dpt] at o1 o2 o3
    simp only [Part.wid] at o4
    simp only [Part.cst] at o5
    simp only [dn, den, Out.bnd] at k
    refine ⟨_, rfl, rfl, _, rfl, ifF (by kernel_rfl) ?_⟩
    refine ⟨_, rfl, rfl, _, rfl, ifF (by kernel_rfl) ?_⟩
    refine ⟨_, rfl, rfl, _, rfl, ifF (by kernel_rfl) ?_⟩
    refine ⟨_, rfl, rfl, _, rfl, ifF (by kernel_rfl) ?_⟩
    refine ⟨_, rfl, rfl, _, rfl, ifF (by kernel_rfl) ?_⟩
    have l1 := dn_len near a fe P
    refine ⟨_, rfl, t, _, _, _, rfl, rfl, hT3, rfl, _, rfl, _, rfl, _, rfl, _, rfl, ?_⟩
    refine ⟨va, ap, af, told, r1, r2, near, a, P, fe, ns, rows, said, rfl, hTo, TA, ⟨da, W.p, W.f⟩, ⟨hok.1, O.dom, O.nw, O.env, by omega, by omega, by omega, by omega, by omega, O.ne⟩, fun H1 f1 TA1 => ?_⟩
    have W1 := W.fr hS hC f1
    refine ⟨_, rfl, rfl, _, rfl, ifF (by kernel_rfl) ?_⟩
    refine ⟨_, rfl, rfl, _, rfl, ifF (by kernel_rfl) ?_⟩
    refine ⟨_, rfl, one_sz (by show 2 ≤ 1000; decide), fun t4 ht4 => ⟨t4, _, rfl, .inr (SqT.of upd_same), rfl, rfl, _, rfl, ifT (by kernel_rfl) ?_⟩⟩
    have f2 : Fr c0 H1 (upd H1 t4 (.tup [.str "add", .str "less"])) := Fr.new ht4
    have W2 := W1.fr hS0 hC0 f2
    have f12 := f1.trans (Fr.of0 (C := cT r1 r2) f2)
    refine ⟨_, rfl, t, _, _, _, rfl, rfl, f12.sqT hT3, rfl, _, rfl, _, rfl, _, rfl, _, rfl, ?_⟩
    refine ⟨vb, ap, af, told, r1, r2, near, b, P, fe, ns, rows ++ (dn near a fe P).rows, said ++ (dn near a fe P).said, rfl, f12.sqT hTo, (TA1.fr f2), ⟨Dp.fr f12 _ _ (tup_enc b) db, W2.p, W2.f⟩, ⟨hok.2, O.dom, O.nw, O.env, by omega, by omega, by omega, by omega, by rw [List.length_append, List.length_append]; omega, O.ne⟩, fun H3 f3 TA3 => ?_⟩
    refine ⟨_, rfl, _, rfl, _, _, rfl, rfl, _, _, rfl, rfl, (by show (0 : Int) < 100; decide), _, rfl, _, rfl, _, _, rfl, rfl, .inr ⟨_, rfl, one_sz (by show 2 ≤ 1000; decide), fun l hl => ⟨_, rfl, rfl, .inr ⟨_, rfl, l, _, _, .int (((dn near a fe P).v + (dn near b fe P).v) % 100), rfl, rfl, SqL.of upd_same, ?_, ?_⟩⟩⟩⟩
    · rw [show decide (V.str (Part.add a b).word = V.str "less") = false from by kernel_rfl]; rfl
    · exact k _ ((f12.trans f3).trans (Fr.new hl)) (by simpa only [dn, List.append_assoc, List.append_nil] using TA3.fr (Fr.new hl))
  | less a b =>
    obtain ⟨t', va, vb, e, hT3, da, db⟩ := inv_less W.v
    cases e
    have hok := O.ok
    simp only [Part.ok] at hok
    simp only [Part.dpt] at o1 o2 o3
    simp only [Part.wid] at o4
    simp only [Part.cst] at o5
    simp only [dn, den, Out.bnd] at k
    refine ⟨_, rfl, rfl, _, rfl, ifF (by kernel_rfl) ?_⟩
    refine ⟨_, rfl, rfl, _, rfl, ifF (by kernel_rfl) ?_⟩
    refine ⟨_, rfl, rfl, _, rfl, ifF (by kernel_rfl) ?_⟩
    refine ⟨_, rfl, rfl, _, rfl, ifF (by kernel_rfl) ?_⟩
    refine ⟨_, rfl, rfl, _, rfl, ifF (by kernel_rfl) ?_⟩
    have l1 := dn_len near a fe P
    refine ⟨_, rfl, t, _, _, _, rfl, rfl, hT3, rfl, _, rfl, _, rfl, _, rfl, _, rfl, ?_⟩
    refine ⟨va, ap, af, told, r1, r2, near, a, P, fe, ns, rows, said, rfl, hTo, TA, ⟨da, W.p, W.f⟩, ⟨hok.1, O.dom, O.nw, O.env, by omega, by omega, by omega, by omega, by omega, O.ne⟩, fun H1 f1 TA1 => ?_⟩
    have W1 := W.fr hS hC f1
    refine ⟨_, rfl, rfl, _, rfl, ifF (by kernel_rfl) ?_⟩
    refine ⟨_, rfl, rfl, _, rfl, ifF (by kernel_rfl) ?_⟩
    refine ⟨_, rfl, one_sz (by show 2 ≤ 1000; decide), fun t4 ht4 => ⟨t4, _, rfl, .inr (SqT.of upd_same), rfl, rfl, _, rfl, ifT (by kernel_rfl) ?_⟩⟩
    have f2 : Fr c0 H1 (upd H1 t4 (.tup [.str "add", .str "less"])) := Fr.new ht4
    have W2 := W1.fr hS0 hC0 f2
    have f12 := f1.trans (Fr.of0 (C := cT r1 r2) f2)
    refine ⟨_, rfl, t, _, _, _, rfl, rfl, f12.sqT hT3, rfl, _, rfl, _, rfl, _, rfl, _, rfl, ?_⟩
    refine ⟨vb, ap, af, told, r1, r2, near, b, P, fe, ns, rows ++ (dn near a fe P).rows, said ++ (dn near a fe P).said, rfl, f12.sqT hTo, (TA1.fr f2), ⟨Dp.fr f12 _ _ (tup_enc b) db, W2.p, W2.f⟩, ⟨hok.2, O.dom, O.nw, O.env, by omega, by omega, by omega, by omega, by rw [List.length_append, List.length_append]; omega, O.ne⟩, fun H3 f3 TA3 => ?_⟩
    refine ⟨_, rfl, _, rfl, _, _, rfl, rfl, _, _, rfl, rfl, (by show (0 : Int) < 100; decide), _, rfl, _, rfl, _, _, rfl, rfl, .inr ⟨_, rfl, one_sz (by show 2 ≤ 1000; decide), fun l hl => ⟨_, rfl, rfl, .inr ⟨_, rfl, l, _, _, .int (if decide ((dn near a fe P).v < (dn near b fe P).v) = true then 1 else 0), rfl, rfl, SqL.of upd_same, ?_, ?_⟩⟩⟩⟩
    · rw [show decide (V.str (Part.less a b).word = V.str "less") = true from by kernel_rfl]; rfl
    · have ei : (if decide ((dn near a fe P).v < (dn near b fe P).v) = true then (1 : Int) else 0) = if (dn near a fe P).v < (dn near b fe P).v then 1 else 0 := by simp only [decide_eq_true_eq]
      rw [ei]
      exact k _ ((f12.trans f3).trans (Fr.new hl)) (by simpa only [dn, List.append_assoc, List.append_nil] using TA3.fr (Fr.new hl))
end BN
namespace BN
open PySem L2 PyProof.Rows
/-! ### a call of the law's -/
def t_lcall (K : PySem.W.Frag) (n : Nat) : TS :=
  (tSeq (tAsg (tLc (iTup K (tOp (rIxT K) (tVar 0) (tC (.int 2)))) (gName 10) tYes (tCall (spLWork K n) [] C8.E0 (tCons (tVar 10) (tCons (tVar 1) (tCons (tVar 2) (tCons (tVar 3) (tCons (tVar 4) tNil)))))) [10]) (gName 5))
    (tSeq (tAsg (tDGet (tVar 2) (tOp (rIxT K) (tVar 0) (tC (.int 1)))) (gTup K 4 (gCons (gName 6) (gCons (gName 7) (gCons (gName 8) (gCons (gName 9) gNil))))))
    (tRet (tCall (spLWork K n) [] C8.E0 (tCons (tVar 7) (tCons (tOp rCat (tOp (rIxL K) (tLst (tCons (tVar 1) (tCons (tVar 8) tNil))) (tCB rInt1 (tCons (tVar 4) tNil))) (tLst (tCons (tCall (spLRoom K) [] C8.E0 (tCons (tVar 6) (tCons (tVar 5) tNil))) tNil))) (tCons (tVar 9) (tCons (tVar 3) (tCons (tVar 4) tNil)))))))))
theorem pure_lcall {K : PySem.W.Frag} {n : Nat} (vs : List V) (H : Hp) (Q : VK) (E : XK) (h : spLCall K (n + 1) vs H Q E) :
    t_lcall K n { nx := fun _ H' => Q .non H', rt := Q } (start ["part", "pile", "funs", "told", "near", "numbers", "params", "body", "home", "known", "one"] vs) H := by
  obtain ⟨v, ap, af, told, r1, r2, near, f, as, P, fe, ns, rows, said, rfl, hTo, TA, W, O, k⟩ := h
  obtain ⟨t, ta, ws, rfl, hT, hA, da⟩ := inv_call W.v
  have hS : PStay (SL r1 r2) (cT r1 r2) := stayL
  have hS0 : PStay (SL r1 r2) c0 := stayL0
  have hC : ∀ c kvs, ¬ cT r1 r2 c (.dK kvs) := fun _ _ => cT_dK
  have hC0 : ∀ c kvs, ¬ c0 c (.dK kvs) := fun _ _ z => z
  have nl : ∀ {a : Addr}, H a = none → a ≠ r1 ∧ a ≠ r2 := fun {a} h => by
    obtain ⟨rv, h1, _⟩ := TA.rw
    exact ⟨fun z => (by rw [z, h1] at h; cases h), fun z => (by rw [z, TA.sd] at h; cases h)⟩
  have o1 := O.dp; have o2 := O.pl; have o3 := O.fl; have o4 := O.wid; have o5 := O.cst
  have hok := O.ok
  simp only [Part.ok] at hok
  simp only [Part.dpt] at o1 o2 o3
  simp only [Part.wid] at o4
  simp only [Part.cst] at o5
  have hb := sem_bnd near fe
  obtain ⟨os, hos⟩ : ∃ os, os = dens near as (sem near fe) P := ⟨_, rfl⟩
  have los : os = as.list.map fun q => dn near q fe P := by rw [hos, dens_list]
  have lw : ws.length = as.list.length := by rw [da.len, List.length_map]
  have lo : os.length = as.list.length := by rw [los, List.length_map]
  have la := Parts.list_len as
  refine ⟨_, rfl, t, _, _, _, rfl, rfl, hT, rfl, ta, rfl, ⟨_, hA⟩, ?_⟩
  refine lcJ_tup (K := K) (a := ta) (xs := ws) (C := cT r1 r2) (I := fun i H' => TAt K H' r1 r2 (rows ++ (os.take i).flatMap (·.rows)) (said ++ (os.take i).flatMap (·.said))) (Good := fun i d => ∃ q, as.list[i]? = some q ∧ d = .int (dn near q fe P).v)
    hA (fun i H' D ys hD fD g2 => g2.new (nl hD).1 (nl hD).2 fD) (fun D o hD z => ?_) (by simpa using TA) (by omega) (fun i x hi H' f' TA' Q' hQ => ?_) fun D vs ds H2 hD e2 da2 dl dg f2 TA2 => ?_
  · rcases z.1 with z | z
    · exact (nl hD).1 z
    · exact (nl hD).2 z
  · obtain ⟨dd, hdd, Dx⟩ := da.getV hi
    obtain ⟨q, hq, rfl⟩ := map_at hdd
    have hm := List.mem_of_getElem? hq
    have W' := W.fr hS hC f'
    have c1 := dens_take near hb (P := P) hq
    rw [← hos] at c1
    have d1 := dpt_list (d := dlt fe) hm
    have w1 := wid_list as q hm
    refine ⟨_, rfl, _, rfl, _, rfl, _, rfl, _, rfl, x, ap, af, told, r1, r2, near, q, P, fe, ns, _, _, rfl, f'.sqT hTo, TA', ⟨Dp.fr f' _ _ (tup_enc q) Dx, W'.p, W'.f⟩, ⟨parts_in hok.2 q hm, O.dom, O.nw, O.env, by omega, by omega, by omega, by omega, by rw [List.length_append, List.length_append]; omega, O.ne⟩, fun H3 f3 T3 => ?_⟩
    refine hQ (.int (dn near q fe P).v) _ _ ⟨q, hq, rfl⟩ rfl (.int _) f3 ?_
    have hoi : os[i]? = some (dn near q fe P) := by rw [los, List.getElem?_map, hq]; rfl
    show TAt K H3 r1 r2 (rows ++ (os.take (i + 1)).flatMap (·.rows)) (said ++ (os.take (i + 1)).flatMap (·.said))
    rw [take_more hoi]
    simpa only [List.flatMap_append, List.flatMap_cons, List.flatMap_nil, List.append_nil, List.append_assoc] using T3
  · have hds : ds = (os.map (·.v)).map PyData.int := by
      rw [los, List.map_map, List.map_map]
      exact eq_map_of_at (by rw [dl, lw]) fun k d hk => (dg k d hk).1
    rw [hds] at da2
    have hvs := da2.ints_inv
    subst hvs
    rw [lw, ← lo, List.take_length] at TA2
    have W2 := W.fr hS hC f2
    obtain ⟨e, tl, l, rfl, ef, hl, hpl, hE, hdl, hcn, hsm⟩ := env_at near hok.1 O.env
    obtain ⟨kvs, kn, tt, tp, ph, vb, g1, g2, g3, g4, g5, g6, g7⟩ := FunsAt.get W2.f fun x hx => by rw [ef]; exact hl x hx
    rw [ef] at g2
    have lvs : (os.map (·.v)).length = as.len := by rw [List.length_map, lo, la]
    obtain ⟨E1, E2, E3, E4, E5, E6, E7, E8, E9, E10, E11, E12⟩ := id hE
    have cd := dens_len near as (sem near (l ++ e :: tl)) P _ hb
    rw [← hos] at cd
    refine ⟨_, rfl, _, rfl, t, _, _, _, rfl, rfl, f2.sqT hT, rfl, af, _, rfl, by have := DGet.k (k := Sum.inr f) g1; rw [g2] at this; exact this, tt, _, rfl, g4, rfl, _, _, rfl, _, _, rfl, _, _, rfl, _, _, rfl, rfl, ?_⟩
    obtain ⟨pb, PB, hPB, hsel⟩ : ∃ (pb : Addr) (PB : List Room), (PB = (if near = true then e.home else P) ∧ PileAt (SL r1 r2) H2 pb PB ∧ PB ≠ [] ∧ EOk tl PB ∧ (∀ x ∈ e.ns, hasR PB x) ∧ PB.length + 1 + e.b.dpt (dlt tl) ≤ 1000) ∧
        ∀ R : VK, (∀ H', Fr c0 H2 H' → R (.ref pb) H') → tOp (rIxL K) (tLst (tCons (tVar 1) (tCons (tVar 8) tNil))) (tCB rInt1 (tCons (tVar 4) tNil)) [some (.ref t), some (.ref ap), some (.ref af), some (.ref told), some (.bl near), some (.ref D), some (.ref tp), some vb, some (.ref ph), some (.ref kn), none] H2 R := by
      cases near with
      | true => exact ⟨ph, e.home, ⟨rfl, g7, E11, E2, E4, by omega⟩, fun R hR => ⟨_, rfl, _, rfl, one_sz (by show 2 ≤ 1000; decide), fun l hl => ⟨_, rfl, .inr ⟨_, rfl, l, _, _, _, rfl, rfl, SqL.of upd_same, rfl, hR _ (Fr.new hl)⟩⟩⟩⟩
      | false => exact ⟨ap, P, ⟨rfl, W2.p, O.ne, E1, E3, by omega⟩, fun R hR => ⟨_, rfl, _, rfl, one_sz (by show 2 ≤ 1000; decide), fun l hl => ⟨_, rfl, .inr ⟨_, rfl, l, _, _, _, rfl, rfl, SqL.of upd_same, rfl, hR _ (Fr.new hl)⟩⟩⟩⟩
    obtain ⟨ePB, PB4, nePB, ePB2, dPB, lPB⟩ := hPB
    refine ⟨_, rfl, hsel _ fun H3 f3 => ?_⟩
    have D3 := f3.at e2 (fun z => z)
    refine ⟨_, rfl, _, rfl, tp, D, e.ps, os.map (·.v), rfl, f3.sqT g5, .inl (SqL.of D3), by omega, E6, by omega, fun q H4 f4 hq0 hq4 => ⟨one_sz (by show 1 ≤ 1000; decide), fun t2 ht2 => ?_⟩⟩
    have f24 := f3.trans f4
    obtain ⟨dsp, q1, q2, q3⟩ := (PB4.fr hS0 hC0 f24).ex
    have f5 : Fr c0 H4 (upd H4 t2 (.lst [.ref q])) := Fr.new ht2
    refine ⟨pb, t2, _, [.ref q], rfl, rfl, f5.at q1.1 (fun z => z), upd_same, one_sz (by rw [List.length_map, q2]; show PB.length + 1 ≤ 1000; omega), fun t3 ht3 => ?_⟩
    have f6 : Fr c0 (upd H4 t2 (.lst [.ref q])) (upd (upd H4 t2 (.lst [.ref q])) t3 (.lst (dsp.map V.ref ++ [.ref q]))) := Fr.new ht3
    have f46 := f5.trans f6
    have f26 := f24.trans f46
    have nt3 := nl (f2.free _ ((f24.trans f5).free _ ht3))
    have dx' : ∀ y ∈ e.ns ++ e.ps, hasR (PB ++ [e.ps.zip (os.map (·.v))]) y := fun y hy => by
      rcases List.mem_append.mp hy with z | z
      · exact (dPB y z).app _
      · exact hasR.zip (by omega) z
    have f06 := f2.trans (Fr.of0 (C := cT r1 r2) f26)
    refine ⟨_, rfl, _, rfl, _, rfl, vb, t3, kn, told, r1, r2, near, e.b, PB ++ [e.ps.zip (os.map (·.v))], tl, e.ns ++ e.ps, _, _, rfl, f06.sqT hTo, TA2.fr f26, ⟨Dp.fr f26 _ _ (tup_enc _) g6, PileAt.snoc (S := SL r1 r2) (S2 := SL r1 r2) (H := H) q2 (fun k d r e1 e2 => f46.at (q3 k d r e1 e2) (fun z => z)) (f46.at hq4 (fun z => z)) ⟨upd_same, nt3⟩, FunsAt.fr hS0 hC0 f26 g3⟩,
      ⟨E5, dx', E12, ePB2.mono fun y hy => hy.app _, by omega, by rw [List.length_append]; show PB.length + 1 + _ ≤ _; omega, by omega, by omega, by rw [List.length_append, List.length_append]; omega, by simp⟩, fun H7 f7 TA7 => ?_⟩
    have ev : dn near (.call f as) (l ++ e :: tl) P = ⟨(dn near e.b tl (PB ++ [e.ps.zip (os.map (·.v))])).v, os.flatMap (·.rows) ++ (dn near e.b tl (PB ++ [e.ps.zip (os.map (·.v))])).rows, os.flatMap (·.said) ++ (dn near e.b tl (PB ++ [e.ps.zip (os.map (·.v))])).said⟩ := by
      simp only [dn, den, hsm, ← hos, ← ePB]
    rw [ev] at k
    exact k H7 (f06.trans f7) (by simpa only [List.append_assoc] using TA7)
/-! ### a whole run of the law's -/
def spLRun (K : PySem.W.Frag) : Sp := fun vs H Q _ => ∃ (v : V) (tn : Addr) (near : Bool) (ins : List Str) (pt : Part) (ns : List Int), vs = [v, .ref tn, .bl near] ∧ Dp K H v (encP ins pt) ∧ SqT K H tn (ns.map V.int) ∧ ins.Nodup ∧ ns.length = ins.length ∧ ins.length ≤ 1000 ∧ WOk 130 pt [ins.zip ns] [] ins 0 ∧
  ∀ (t r1 r2 : Addr) H', Fr c0 H H' → H r1 = none → H r2 = none → SqT K H' t [.int (mean near ins pt ns).v, .ref r1, .ref r2] → TAt K H' r1 r2 (mean near ins pt ns).rows (mean near ins pt ns).said → Q (.ref t) H'
def t_lrun (K : PySem.W.Frag) : TS :=
  (tSeq (tAsg (tTup (tCons (tLst tNil) (tCons (tLst tNil) tNil))) (gName 3))
    (tSeq (tAsg (tCall (spLWork K 130) [] C8.E0 (tCons (tOp (rIxT K) (tVar 0) (tC (.int 1))) (tCons (tLst (tCons (tCall (spLRoom K) [] C8.E0 (tCons (tOp (rIxT K) (tVar 0) (tC (.int 0))) (tCons (tVar 1) tNil))) tNil)) (tCons tDNewK (tCons (tVar 3) (tCons (tVar 2) tNil)))))) (gName 4))
    (tRet (tTup (tCons (tVar 4) (tCons (tOp (rIxT K) (tVar 3) (tC (.int 0))) (tCons (tOp (rIxT K) (tVar 3) (tC (.int 1))) tNil)))))))
theorem pure_lrun {K : PySem.W.Frag} (vs : List V) (H : Hp) (Q : VK) (E : XK) (h : spLRun K vs H Q E) : t_lrun K { nx := fun _ H' => Q .non H', rt := Q } (start ["program", "numbers", "near", "told", "number"] vs) H := by
  obtain ⟨v, tn, near, ins, pt, ns, rfl, hd, hN, hnd, hl, h1000, O, k⟩ := h
  obtain ⟨t, ti, vp, rfl, hT, hI, dp⟩ := inv_P hd
  refine ⟨one_sz (Nat.zero_le _), fun r1 hr1 => ⟨one_sz (Nat.zero_le _), fun r2 hr2 => ⟨one_sz (by show 2 ≤ 1000; decide), fun to hto => ?_⟩⟩⟩
  have ne12 : r1 ≠ r2 := ne_of_none upd_same hr2
  have f1 : Fr c0 H (upd H r1 (.lst [])) := Fr.new hr1
  have f2 : Fr c0 (upd H r1 (.lst [])) (upd (upd H r1 (.lst [])) r2 (.lst [])) := Fr.new hr2
  have f3 : Fr c0 (upd (upd H r1 (.lst [])) r2 (.lst [])) (upd (upd (upd H r1 (.lst [])) r2 (.lst [])) to (.tup [.ref r1, .ref r2])) := Fr.new hto
  have TA0 : TAt K (upd (upd H r1 (.lst [])) r2 (.lst [])) r1 r2 [] [] := ⟨ne12, ⟨[], by rw [upd_ne ne12, upd_same], .nil⟩, upd_same⟩
  have TA3 := TA0.fr f3
  have hT3 : (upd (upd (upd H r1 (.lst [])) r2 (.lst [])) to (.tup [.ref r1, .ref r2])) to = some (.tup [.ref r1, .ref r2]) := upd_same
  have hr20 := f1.free _ hr2
  have f03 := (f1.trans f2).trans f3
  generalize (upd (upd (upd H r1 (.lst [])) r2 (.lst [])) to (.tup [.ref r1, .ref r2])) = H3 at f03 TA3 hT3 ⊢
  refine ⟨_, rfl, t, _, _, _, rfl, rfl, f03.sqT hT, rfl, _, rfl, t, _, _, _, rfl, rfl, f03.sqT hT, rfl, _, rfl, ti, tn, ins, ns, rfl, f03.sqT hI, .inr (f03.sqT hN), hl.symm, hnd, h1000, fun q H4 f4 hq0 hq4 => ⟨one_sz (by show 1 ≤ 1000; decide), fun l hl' => fun d hd' => ?_⟩⟩
  have f5 : Fr c0 H4 (upd H4 l (.lst [.ref q])) := Fr.new hl'
  have f6 : Fr c0 (upd H4 l (.lst [.ref q])) (upd (upd H4 l (.lst [.ref q])) d (.dK [])) := Fr.new hd'
  have f46 := f5.trans f6
  have hl6 := f6.at (show (upd H4 l (.lst [.ref q])) l = some (.lst [.ref q]) from upd_same) (fun z => z)
  have hd6 : (upd (upd H4 l (.lst [.ref q])) d (.dK [])) d = some (.dK []) := upd_same
  have nl1 : l ≠ r1 := fun z => by
    obtain ⟨rv, h1, _⟩ := (TA3.fr f4).rw
    rw [z, h1] at hl'; cases hl'
  have nl2 : l ≠ r2 := fun z => by rw [z, (TA3.fr f4).sd] at hl'; cases hl'
  generalize (upd (upd H4 l (.lst [.ref q])) d (.dK [])) = H6 at f46 hl6 hd6 ⊢
  have f36 := f4.trans f46
  have f06 := f03.trans f36
  refine ⟨_, rfl, _, rfl, vp, l, d, to, r1, r2, near, pt, [ins.zip ns], [], ins, [], [], rfl, f36.sqT (SqT.of hT3), TA3.fr f36, ⟨Dp.fr f06 _ _ (tup_enc pt) dp, ⟨[q], ⟨hl6, nl1, nl2⟩, rfl, fun k d' r e1 e2 => ?_⟩, hd6⟩, O, fun H7 f7 TA7 => ?_⟩
  · cases k with
    | zero =>
      have e1 : q = d' := by simpa using e1
      have e2 : ins.zip ns = r := by simpa using e2
      subst e1 e2
      exact f46.at hq4 (fun z => z)
    | succ k => simp at e1
  · have f07 : Fr c0 H H7 := f06.hide f7 fun a o o' e z => by
      rcases z.1 with rfl | rfl
      · rw [hr1] at e; cases e
      · rw [hr20] at e; cases e
    have hTo7 := f7.sqT (f36.sqT (SqT.of (K := K) hT3))
    refine ⟨_, rfl, _, rfl, to, _, _, _, rfl, rfl, hTo7, rfl, _, rfl, to, _, _, _, rfl, rfl, hTo7, rfl, one_sz (by show 3 ≤ 1000; decide), fun t3 ht3 => ?_⟩
    have f8 : Fr c0 H7 (upd H7 t3 (.tup [.int (mean near ins pt ns).v, .ref r1, .ref r2])) := Fr.new ht3
    exact k t3 r1 r2 _ (f07.trans f8) hr1 hr20 (SqT.of upd_same) (by simpa using TA7.fr f8)
end BN
namespace BN
open PySem L2 PyProof.Rows
theorem Box.fr0 {H H' : Hp} {bx il : Addr} (B : Box H bx il) (f : Fr c0 H H') : Box H' bx il := by
  obtain ⟨ns, sd, h1, h2, h3⟩ := B.ex
  exact ⟨ns, sd, f.at h1 (fun z => z), f.at h2 (fun z => z), h3⟩
theorem rows_small (l : List Row) : PyData.depthAll (l.map encRow) ≤ 1 ∧ wds (l.map encRow) ≤ 3 := by
  induction l with
  | nil => simp [PyData.depthAll, wds]
  | cons r t ih =>
    obtain ⟨x, k, n⟩ := r
    simp only [List.map_cons, PyData.depthAll, wds, encRow, PyData.depth, wd, List.length_cons, List.length_nil]
    omega
theorem ints_small (l : List Int) : PyData.depthAll (l.map PyData.int) = 0 ∧ wds (l.map PyData.int) = 0 := by
  induction l with
  | nil => simp [PyData.depthAll, wds]
  | cons r t ih =>
    simp only [List.map_cons, PyData.depthAll, wds, PyData.depth, wd]
    omega
theorem str_eqB (me : Str) : decide (V.str me = V.str "near") = decide (me = "near") := decide_eq_decide.mpr ⟨fun z => V.str.inj z, fun z => by rw [z]⟩
theorem Drawn.run {d : Int} {ins : List Str} {p : Part} (h : Drawn d ins p) (h5 : d ≤ 5) {ns : List Int} (hl : ns.length = ins.length) (hr : ∀ n ∈ ns, 0 ≤ n ∧ n ≤ 99) : RunOk ins p ns := by
  have := h.dpt h5
  exact ⟨h.okP h5, hl, hr, by omega, by omega⟩
theorem mean_len {near : Bool} {ins : List Str} {p : Part} {ns : List Int} {d : Int} (h : Drawn d ins p) (h5 : d ≤ 5) : (mean near ins p ns).rows.length + (mean near ins p ns).said.length ≤ 77186 :=
  Nat.le_trans (dn_len near p [] [ins.zip ns]) (h.dpt h5).2
/-! ### the law -/
def spLaw (K : PySem.W.Frag) : Sp := fun vs H Q _ => ∃ (a : Addr) (ns : List Int), vs = [.ref a] ∧ SqL K H a (ns.map V.int) ∧ ns.length ≤ 63 ∧ ∀ H', Q (.bl true) H'
def t_law (K : PySem.W.Frag) : TS :=
  (tSeq (tAsg (tCall (spBegun K) [] C8.E0 (tCons (tVar 0) tNil)) (gName 1))
    (tSeq (tAsg (tCall (spProgram K) [] C8.E0 (tCons (tVar 1) (tCons (tC (.int 5)) tNil))) (gName 2))
    (tSeq (tFor (iRng1 (tCons (tC (.int 3)) tNil)) (gName 3) (tSeq (tAsg (tCall (spNumbers K) [] C8.E0 (tCons (tVar 1) (tCons (tVar 2) tNil))) (gName 4))
    (tFor (iList K (tLst (tCons (tC (.str "near")) (tCons (tC (.str "called")) tNil)))) (gName 5) (tSeq (tAsg (tCall (spLRun K) [] C8.E0 (tCons (tVar 2) (tCons (tVar 4) (tCons (tOp rEq (tVar 5) (tC (.str "near"))) tNil)))) (gTup K 3 (gCons (gName 6) (gCons (gName 7) (gCons (gName 8) gNil)))))
    (tFor (iRng1 (tCons (tC (.int 2)) tNil)) (gName 9) (tSeq (tAsg (tCall (spRoomed K) [] C8.E0 (tCons (tVar 2) (tCons (tVar 4) (tCons (tVar 5) tNil)))) (gName 10))
    (tSeq (tIfS (tNot (tB (tCall (spAlike K 5) [] C8.E0 (tCons (tVar 10) (tCons (tVar 7) tNil))))) (tRet (tC (.bl false))) tNext)
    (tSeq (tDrop (tBM K "list" rAppend (tVar 10) (tCons (tTup tNil) tNil)))
    (tIfS (tNot (tB (tCall (spAlike K 5) [] C8.E0 (tCons (tCall (spRun K) [] C8.E0 (tCons (tVar 2) (tCons (tVar 4) (tCons (tVar 5) tNil)))) (tCons (tTup (tCons (tVar 6) (tCons (tCB (rTupSq K) (tCons (tVar 8) tNil)) tNil))) tNil))))) (tRet (tC (.bl false))) tNext)))))))))
    (tRet (tC (.bl true))))))
theorem pure_law {K : PySem.W.Frag} (vs : List V) (H : Hp) (Q : VK) (E : XK) (h : spLaw K vs H Q E) :
    t_law K { nx := fun _ H' => Q .non H', rt := Q } (start ["script", "box", "program", "turn", "numbers", "meaning", "number", "rows", "said", "again", "found"] vs) H := by
  obtain ⟨a, ns, rfl, hS, hl, k⟩ := h
  refine ⟨_, rfl, a, ns, rfl, hS, hl, fun bx il H1 f1 B1 => ?_⟩
  refine ⟨_, rfl, bx, il, 5, rfl, B1, by decide, by decide, fun ins pt vp H2 dr hd f2 B2 => ?_⟩
  obtain ⟨t, ti, vp', rfl, hT, hI, _⟩ := inv_P hd
  have O := dr.okP (by decide)
  have oil := O.il
  refine ⟨3, rfl, by decide, by decide, ?_⟩
  refine for_range (lo := 0) (n := 3) (fun i σ H' => ∃ s3 s4 s5 s6 s7 s8 s9 s10, σ = [some (.ref a), some (.ref bx), some (.ref t), s3, s4, s5, s6, s7, s8, s9, s10] ∧ Fr (cB bx il) H2 H' ∧ Box H' bx il) ⟨_, _, _, _, _, _, _, _, rfl, Fr.refl _, B2⟩ ?_ ?_
  · rintro i σ H3 hi ⟨s3, s4, s5, s6, s7, s8, s9, s10, rfl, f3, B3⟩
    refine ⟨_, rfl, _, rfl, bx, il, t, ti, vp', ins, rfl, B3, f3.sqT hT, f3.sqT hI, by omega, fun tn nums H4 hnl hnr hN f4 B4 => ?_⟩
    have R := dr.run (by decide) hnl hnr
    have f24 := f3.trans f4
    refine ⟨one_sz (by show 2 ≤ 1000; decide), fun lm hlm => ⟨lm, rfl, ⟨_, SqL.of upd_same⟩, ?_⟩⟩
    have f5 : Fr c0 H4 (upd H4 lm (.lst [.str "near", .str "called"])) := Fr.new hlm
    have hL5 : (upd H4 lm (.lst [.str "near", .str "called"])) lm = some (.lst [.str "near", .str "called"]) := upd_same
    generalize (upd H4 lm (.lst [.str "near", .str "called"])) = H5 at f5 hL5 ⊢
    have f25 := f24.trans (Fr.of0 f5)
    have hd5 := Dp.fr f25 _ _ (tup_encP ins pt) hd
    have hN5 : SqT K H5 tn (nums.map V.int) := f5.sqT (SqT.of hN)
    refine for_list (K := K) (a := lm) (xs := [.str "near", .str "called"]) (fun i σ H' => ∃ s3 s5 s6 s7 s8 s9 s10, σ = [some (.ref a), some (.ref bx), some (.ref t), s3, some (.ref tn), s5, s6, s7, s8, s9, s10] ∧ Fr c0 H5 H') ⟨_, _, _, _, _, _, _, rfl, Fr.refl _⟩
      (fun i σ H' _ ⟨_, _, _, _, _, _, _, _, f'⟩ => SqL.of (f'.at hL5 (fun z => z))) ?_ ?_
    · rintro i' x σ H6 hx ⟨s3, s5, s6, s7, s8, s9, s10, rfl, f6⟩
      obtain ⟨me, rfl, hme⟩ : ∃ me : Str, x = .str me ∧ (me = "near" ∨ me = "called") := by
        match i', hx with
        | 0, hx => exact ⟨"near", (Option.some.inj hx).symm, .inl rfl⟩
        | 1, hx => exact ⟨"called", (Option.some.inj hx).symm, .inr rfl⟩
      refine ⟨_, rfl, _, rfl, _, rfl, rfl, .ref t, tn, _, ins, pt, nums, rfl, Dp.sm f6 _ _ hd5, f6.sqT hN5, O.nd, hnl, by omega, R.w, fun t7 r1 r2 H7 f7 n1 n2 hT7 TA7 => ?_⟩
      rw [str_eqB] at hT7 TA7
      refine ⟨t7, _, rfl, hT7, rfl, _, _, rfl, _, _, rfl, _, _, rfl, rfl, ?_⟩
      have f57 := f6.trans f7
      have ml := mean_len (near := decide (me = "near")) (ns := nums) dr (by decide)
      refine ⟨2, rfl, by decide, by decide, ?_⟩
      refine for_range (lo := 0) (n := 2) (fun i σ H' => ∃ s3 s9 s10, σ = [some (.ref a), some (.ref bx), some (.ref t), s3, some (.ref tn), some (.str me), some (.int (mean (decide (me = "near")) ins pt nums).v), some (.ref r1), some (.ref r2), s9, s10] ∧ Fr c0 H7 H') ⟨_, _, _, rfl, Fr.refl _⟩ ?_ ?_
      · rintro i2 σ H8 hi2 ⟨s3, s9, s10, rfl, f8⟩
        have f58 := f57.trans f8
        refine ⟨_, rfl, _, rfl, _, rfl, .ref t, tn, me, ins, pt, nums, rfl, Dp.sm f58 _ _ hd5, f58.sqT hN5, R, hme, fun D rv H9 f9 hD0 eD dD => ?_⟩
        obtain ⟨rw9, g1, g2⟩ := (TA7.fr (f8.trans f9)).rw
        have rs := rows_small (mean (decide (me = "near")) ins pt nums).rows
        refine ⟨_, rfl, _, rfl, .ref D, .ref r1, .list ((mean (decide (me = "near")) ins pt nums).rows.map encRow), rfl, .lst (SqL.of eD) dD, .lst (SqL.of g1) g2, by simp only [PyData.depth]; omega, by simp only [wd, List.length_map]; omega, true, rfl, iteF ?_⟩
        refine ⟨_, rfl, .inl ⟨rfl, _, SqL.of eD⟩, one_sz (Nat.zero_le _), fun t0 ht0 => ?_⟩
        have f10 : Fr c0 H9 (upd H9 t0 (.tup [])) := Fr.new ht0
        have lrv : rv.length = (mean (decide (me = "near")) ins pt nums).rows.length := by rw [dD.len, List.length_map]
        refine ⟨D, rv, _, rfl, rfl, f10.at eD (fun z => z), Nat.lt_of_lt_of_le (m := 16000000) (by omega) (by rw [sizeLine_eq]; decide), ?_⟩
        have f11 : Fr c0 H8 (upd (upd H9 t0 (.tup [])) D (.lst (rv ++ [.ref t0]))) := (f9.trans f10).fresh hD0
        generalize (upd (upd H9 t0 (.tup [])) D (.lst (rv ++ [.ref t0]))) = H11 at f11 ⊢
        have f511 := f58.trans f11
        refine ⟨_, rfl, _, rfl, _, rfl, .ref t, tn, me, ins, pt, nums, rfl, Dp.sm f511 _ _ hd5, f511.sqT hN5, R, hme, fun v H12 f12 dv => ?_⟩
        have TA12 := TA7.fr ((f8.trans f11).trans f12)
        refine ⟨_, rfl, _, rfl, r2, _, rfl, .inl ⟨SqL.of TA12.sd, fun u hu => ⟨one_sz (by show 2 ≤ 1000; decide), fun t3 ht3 => ?_⟩⟩⟩
        have f13 : Fr c0 H12 (upd H12 u (.tup ((mean (decide (me = "near")) ins pt nums).said.map V.int))) := Fr.new hu
        have f14 : Fr c0 (upd H12 u (.tup ((mean (decide (me = "near")) ins pt nums).said.map V.int))) (upd (upd H12 u (.tup ((mean (decide (me = "near")) ins pt nums).said.map V.int))) t3 (.tup [.int (mean (decide (me = "near")) ins pt nums).v, .ref u])) := Fr.new ht3
        have is := ints_small (mean (decide (me = "near")) ins pt nums).said
        refine ⟨v, .ref t3, _, rfl, Dp.sm (f13.trans f14) _ _ dv, .tup (SqT.of upd_same) (.cons (.int _) (.cons (.tup (SqT.of (f14.tup upd_same)) (DpAll.ints _)) .nil)), by simp only [PyData.depth, PyData.depthAll]; omega, by simp only [wd, wds, List.length_map, List.length_cons, List.length_nil]; omega, true, rfl, iteF ?_⟩
        exact ⟨_, _, _, rfl, ((f8.trans f11).trans f12).trans (f13.trans f14)⟩
      · rintro σ H8 ⟨s3, s9, s10, rfl, f8⟩
        exact ⟨_, _, _, _, _, _, _, rfl, f57.trans f8⟩
    · rintro σ H6 ⟨s3, s5, s6, s7, s8, s9, s10, rfl, f6⟩
      exact ⟨_, _, _, _, _, _, _, _, rfl, f25.trans (Fr.of0 f6), B4.fr0 (f5.trans f6)⟩
  · rintro σ H3 ⟨s3, s4, s5, s6, s7, s8, s9, s10, rfl, f3, B3⟩
    exact k H3
end BN
namespace BN
open PySem L2
/-! ### the first reading that sees unlike numbers -/
abbrev PT := Nat × Str × Int × Int
def firstP : List Row → List Row → Nat → Option PT
  | a :: as, b :: bs, n => if a.2.2 = b.2.2 then firstP as bs (n + 1) else some (n, a.1, a.2.2, b.2.2)
  | _, _, _ => none
theorem firstP_ne : ∀ {as bs : List Row} {i n : Nat} {x y : Row}, firstP (as.take i) (bs.take i) n = none → as[i]? = some x → bs[i]? = some y → x.2.2 ≠ y.2.2 → firstP as bs n = some (n + i, x.1, x.2.2, y.2.2) ∧ firstP (as.take (i + 1)) (bs.take (i + 1)) n = some (n + i, x.1, x.2.2, y.2.2)
  | [], _, i, _, _, _, _, h, _, _ => by simp at h
  | _ :: _, [], i, _, _, _, _, _, h, _ => by simp at h
  | a :: as, b :: bs, 0, n, x, y, _, h1, h2, hn => by
    have e1 : a = x := by simpa using h1
    have e2 : b = y := by simpa using h2
    subst e1 e2
    simp [firstP, hn]
  | a :: as, b :: bs, i + 1, n, x, y, h, h1, h2, hn => by
    simp only [List.take_succ_cons, firstP] at h ⊢
    by_cases e : a.2.2 = b.2.2
    · rw [if_pos e] at h ⊢
      have := firstP_ne h (by simpa using h1) (by simpa using h2) hn
      rw [if_pos e, show n + (i + 1) = n + 1 + i by omega]
      exact this
    · rw [if_neg e] at h; cases h
theorem firstP_eq : ∀ {as bs : List Row} {i n : Nat} {x y : Row}, as[i]? = some x → bs[i]? = some y → x.2.2 = y.2.2 → firstP (as.take (i + 1)) (bs.take (i + 1)) n = firstP (as.take i) (bs.take i) n
  | [], _, i, _, _, _, h, _, _ => by simp at h
  | _ :: _, [], i, _, _, _, _, h, _ => by simp at h
  | a :: as, b :: bs, 0, n, x, y, h1, h2, hn => by
    have e1 : a = x := by simpa using h1
    have e2 : b = y := by simpa using h2
    subst e1 e2
    simp [firstP, hn]
  | a :: as, b :: bs, i + 1, n, x, y, h1, h2, hn => by
    simp only [List.take_succ_cons, firstP]
    by_cases e : a.2.2 = b.2.2
    · rw [if_pos e, if_pos e]; exact firstP_eq (i := i) (by simpa using h1) (by simpa using h2) hn
    · rw [if_neg e, if_neg e]
theorem firstP_more : ∀ {as bs : List Row} {i n : Nat} {r : PT}, firstP (as.take i) (bs.take i) n = some r → firstP (as.take (i + 1)) (bs.take (i + 1)) n = some r
  | [], _, i, _, _, h => by simp [firstP] at h
  | _ :: _, [], i, _, _, h => by cases i <;> simp [firstP] at h
  | a :: as, b :: bs, 0, n, r, h => by simp [firstP] at h
  | a :: as, b :: bs, i + 1, n, r, h => by
    simp only [List.take_succ_cons, firstP] at h ⊢
    by_cases e : a.2.2 = b.2.2
    · rw [if_pos e] at h ⊢; exact firstP_more h
    · rw [if_neg e] at h ⊢; exact h
theorem firstP_min : ∀ {as bs : List Row} {n : Nat}, firstP (as.take (min as.length bs.length)) (bs.take (min as.length bs.length)) n = firstP as bs n
  | [], _, n => by simp [firstP]
  | _ :: _, [], n => by simp [firstP]
  | a :: as, b :: bs, n => by
    have e : min (a :: as).length (b :: bs).length = min as.length bs.length + 1 := by simp only [List.length_cons]; omega
    rw [e]
    simp only [List.take_succ_cons, firstP]
    rw [firstP_min]
def nums (l : List Row) : List Int := l.map (·.2.2)
theorem firstP_none : ∀ {as bs : List Row} {n : Nat}, firstP as bs n = none → (∃ t, nums bs = nums as ++ t) ∨ ∃ t, nums as = nums bs ++ t
  | [], bs, n, _ => .inl ⟨nums bs, rfl⟩
  | a :: as, [], n, _ => .inr ⟨nums (a :: as), rfl⟩
  | a :: as, b :: bs, n, h => by
    simp only [firstP] at h
    by_cases e : a.2.2 = b.2.2
    · rw [if_pos e] at h
      rcases firstP_none h with ⟨t, q⟩ | ⟨t, q⟩
      · exact .inl ⟨t, by simp only [nums, List.map_cons] at q ⊢; rw [q, e]; rfl⟩
      · exact .inr ⟨t, by simp only [nums, List.map_cons] at q ⊢; rw [q, e]; rfl⟩
    · rw [if_neg e] at h; cases h
/-! ### what comes and what is said hangs on the numbers read alone -/
abbrev REnv := Str → Option (List Int → Int × List Int × List Int)
mutual
def rpl : Part → REnv → List Int → Int × List Int × List Int
  | .num n, _, s => (n, [], s)
  | .name _, _, s => match s with
    | n :: t => (n, [], t)
    | [] => (0, [], [])
  | .add a b, e, s => let o := rpl a e s; let p := rpl b e o.2.2; ((o.1 + p.1) % 100, o.2.1 ++ p.2.1, p.2.2)
  | .less a b, e, s => let o := rpl a e s; let p := rpl b e o.2.2; (if o.1 < p.1 then 1 else 0, o.2.1 ++ p.2.1, p.2.2)
  | .ite c a b, e, s => let o := rpl c e s; let p := if o.1 = 0 then rpl b e o.2.2 else rpl a e o.2.2; (p.1, o.2.1 ++ p.2.1, p.2.2)
  | .say a, e, s => let o := rpl a e s; (o.1, o.2.1 ++ [o.1], o.2.2)
  | .lt _ a b, e, s => let o := rpl a e s; let p := rpl b e o.2.2; (p.1, o.2.1 ++ p.2.1, p.2.2)
  | .fn f _ b r, e, s => rpl r (putN e f fun s => rpl b e s) s
  | .call f as, e, s => let o := rpls as e s; match e f with
    | some g => let p := g o.2; (p.1, o.1 ++ p.2.1, p.2.2)
    | none => (0, o.1, o.2)
def rpls : Parts → REnv → List Int → List Int × List Int
  | .nil, _, s => ([], s)
  | .cons p r, e, s => let o := rpl p e s; let q := rpls r e o.2.2; (o.2.1 ++ q.1, q.2)
end
def RRel (e : SEnv) (r : REnv) : Prop := ∀ f, (e f = none ∧ r f = none) ∨ ∃ g k, e f = some g ∧ r f = some k ∧ ∀ vs P t, k (nums (g vs P).rows ++ t) = ((g vs P).v, (g vs P).said, t)
theorem nums_app (a b : List Row) : nums (a ++ b) = nums a ++ nums b := by simp [nums]
mutual
theorem rpl_den (near : Bool) : ∀ (p : Part) (e : SEnv) (r : REnv) (P : List Room) (t : List Int), RRel e r → rpl p r (nums (den near p e P).rows ++ t) = ((den near p e P).v, (den near p e P).said, t)
  | .num n, e, r, P, t, h => by simp [den, rpl, nums]
  | .name x, e, r, P, t, h => by simp [den, rpl, nums]
  | .add a b, e, r, P, t, h => by
    simp only [den, Out.bnd, rpl, nums_app, List.append_assoc]
    rw [rpl_den near a e r P _ h, show nums ([] : List Row) = [] from rfl, List.nil_append, rpl_den near b e r P _ h]
    simp
  | .less a b, e, r, P, t, h => by
    simp only [den, Out.bnd, rpl, nums_app, List.append_assoc]
    rw [rpl_den near a e r P _ h, show nums ([] : List Row) = [] from rfl, List.nil_append, rpl_den near b e r P _ h]
    simp
  | .ite c a b, e, r, P, t, h => by
    simp only [den, Out.bnd, rpl, nums_app, List.append_assoc]
    rw [rpl_den near c e r P _ h]
    by_cases q : (den near c e P).v = 0
    · simp only [q, if_true]; rw [rpl_den near b e r P _ h]
    · simp only [q, if_false]; rw [rpl_den near a e r P _ h]
  | .say a, e, r, P, t, h => by
    simp only [den, Out.bnd, rpl, nums_app, List.append_assoc]
    rw [rpl_den near a e r P _ h]
    simp [nums]
  | .lt x a b, e, r, P, t, h => by
    simp only [den, Out.bnd, rpl, nums_app, List.append_assoc]
    rw [rpl_den near a e r P _ h, rpl_den near b e r _ _ h]
  | .fn f ps b r', e, r, P, t, h => by
    simp only [den, rpl]
    refine rpl_den near r' _ _ P t fun g => ?_
    unfold putN
    by_cases q : g = f
    · rw [if_pos q, if_pos q]
      exact .inr ⟨_, _, rfl, rfl, fun vs Q t => rpl_den near b e r _ t h⟩
    · rw [if_neg q, if_neg q]; exact h g
  | .call f as, e, r, P, t, h => by
    rcases h f with ⟨h1, h2⟩ | ⟨g, k, h1, h2, h3⟩
    · simp only [den, rpl, h1, h2]
      rw [rpls_den near as e r P t h]
    · simp only [den, rpl, h1, h2, nums_app, List.append_assoc]
      rw [rpls_den near as e r P _ h, h3]
theorem rpls_den (near : Bool) : ∀ (as : Parts) (e : SEnv) (r : REnv) (P : List Room) (t : List Int), RRel e r → rpls as r (nums ((dens near as e P).flatMap (·.rows)) ++ t) = ((dens near as e P).flatMap (·.said), t)
  | .nil, e, r, P, t, h => by simp [dens, rpls, nums]
  | .cons p q, e, r, P, t, h => by
    simp only [dens, List.flatMap_cons, rpls, nums_app, List.append_assoc]
    rw [rpl_den near p e r P _ h, rpls_den near q e r P _ h]
end
theorem RRel.nil : RRel (fun _ => none) (fun _ => none) := fun _ => .inl ⟨rfl, rfl⟩
/-- two runs whose readings see the same numbers come to the same and say the same -/
theorem same_of_none {p : Part} {P : List Room} {n : Nat} (h : firstP (den true p (fun _ => none) P).rows (den false p (fun _ => none) P).rows n = none) :
    (den true p (fun _ => none) P).v = (den false p (fun _ => none) P).v ∧ (den true p (fun _ => none) P).said = (den false p (fun _ => none) P).said ∧ nums (den true p (fun _ => none) P).rows = nums (den false p (fun _ => none) P).rows := by
  have a := fun t => rpl_den true p _ _ P t RRel.nil
  have b := fun t => rpl_den false p _ _ P t RRel.nil
  rcases firstP_none h with ⟨t, q⟩ | ⟨t, q⟩
  · have h1 := a t
    have h2 := b []
    rw [List.append_nil, q, h1] at h2
    have ht : t = [] := congrArg (fun z => z.2.2) h2
    subst ht
    exact ⟨congrArg (fun z => z.1) h2, congrArg (fun z => z.2.1) h2, by rw [q, List.append_nil]⟩
  · have h1 := b t
    have h2 := a []
    rw [List.append_nil, q, h1] at h2
    have ht : t = [] := congrArg (fun z => z.2.2) h2
    subst ht
    exact ⟨(congrArg (fun z => z.1) h2).symm, (congrArg (fun z => z.2.1) h2).symm, by rw [q, List.append_nil]⟩
end BN
namespace BNZ
open PySem PySem.Calls PySem.Spec PyProof.Rows L2
/-! ### enumerate(zip(a, b)): the zip, whatever it knows of the tuple it handed out last -/
abbrev IsZA (h : Heap) (z TI TO : Addr) (v : Value) (f : Bool) : Prop :=
  h.get? z = some { cls := .type "zip", dict := none, data := .fields #[v, .bool f, .bool false, .ref TI, .ref TO], slots := #[] }
def OwnV (v : Value) : Prop := v = .none ∨ ∃ T : Addr, v = rawInt T
section
variable {prog : Program} {w : World} {A : Around} {E : Value → Shared → Prop} {s : Shared} {z TI TO i1 i2 : Addr} {fp1 fp2 : List Addr} {n1 n2 i : Nat} {P1 P2 : Nat → Value → Prop} {St1 St2 : Nat → Heap → Prop} {f : Bool} {v a1 a2 : Value}
theorem dead_load {a : Addr} {Q : Option Obj → Shared → Prop} (ho : s.heap.get? a = none) (h : Q none s) : wpAny (model prog w) A (loadIfAlive a) Q E s := by
  have h' : Q (s.heap.get? a) s := by rw [ho]; exact h
  exact fun _ _ _ => h'
theorem live_load {a : Addr} {o : Obj} {Q : Option Obj → Shared → Prop} (ho : s.heap.get? a = some o) (h : Q (some o) s) : wpAny (model prog w) A (loadIfAlive a) Q E s := by
  have h' : Q (s.heap.get? a) s := by rw [ho]; exact h
  exact fun _ _ _ => h'
theorem za_own {Q : Bool → Shared → Prop} (hz : IsZA s.heap z TI TO v f) (hv : OwnV v) (hfree : Q true s) (hheld : ∀ h', IsZA h' z TI TO v true → Heap.SameBut z s.heap h' → Q false { s with heap := h' }) :
    wpAny (model prog w) A (Builtin.SmallTypes.ownedTupleIsFree (.ref z)) Q E s := by
  unfold Builtin.SmallTypes.ownedTupleIsFree
  rcases hv with rfl | ⟨T, rfl⟩
  · exact wpAny_bind (wpAny_field hz rfl (x := .none) rfl (wpAny_pure hfree))
  · refine wpAny_bind (wpAny_field hz rfl (x := rawInt T) rfl ?_)
    show wpAny _ _ (loadIfAlive ((T : Int).toNat) >>= _) _ _ _
    rw [Int.toNat_natCast]
    cases e : s.heap.get? T with
    | none =>
      refine wpAny_bind (dead_load e ?_)
      simp only [Option.isNone_none, if_true]
      exact wpAny_pure hfree
    | some oT =>
      refine wpAny_bind (live_load e ?_)
      simp only [Option.isNone_some, Bool.false_eq_true, if_false]
      refine wpAny_bind (wpAny_field hz rfl (x := .bool f) rfl ?_)
      cases f with
      | true =>
        rw [if_neg (show ¬ ((Value.bool true != Value.bool true) = true) from Bool.false_ne_true)]
        exact wpAny_pure (hheld s.heap hz (Heap.SameBut.refl _ _))
      | false =>
        rw [if_pos (show (Value.bool false != Value.bool true) = true from rfl)]
        exact wpAny_bind (wpAny_setField_rec hz (by simp) fun h₁ hz₁ hs₁ => wpAny_pure (hheld h₁ hz₁ hs₁))
theorem za_item {Q : Value → Shared → Prop} (S : ZipSep2 z TI TO i1 i2 fp1 fp2) (D1 : Draws prog w A i1 fp1 n1 P1 St1) (D2 : Draws prog w A i2 fp2 n2 P2 St2)
    (hz : IsZA s.heap z TI TO v f) (hv : OwnV v) (hTI : IsTupOf2 s.heap TI (.ref i1) (.ref i2)) (hTO : IsTupOf2 s.heap TO a1 a2) (st1 : St1 i s.heap) (st2 : St2 i s.heap) (hlt1 : i < n1) (hlt2 : i < n2)
    (hQ : ∀ x1 x2 h' tk, P1 i x1 → P2 i x2 → (∃ v f, IsZA h' z TI TO v f ∧ OwnV v) → (∃ a1 a2, IsTupOf2 h' TO a1 a2) → St1 (i + 1) h' → St2 (i + 1) h' → IsTupOf2 h' s.heap.objs.size x1 x2 → h'.objs.size = s.heap.objs.size + 1 →
      (∀ c o, c ≠ z → c ≠ TO → c ≠ i1 → c ≠ i2 → s.heap.get? c = some o → h'.get? c = some o) → Q (.ref s.heap.objs.size) { s with heap := h', toks := tk }) :
    wpAny (model prog w) A (Builtin.«zip.__next__» ⟨[.ref z], []⟩) (fun fin s' => ∃ v, fin = .done (.ret v) ∧ Q v s') E s := by
  obtain ⟨hp, g, d, tk0, os⟩ := s
  show wpAny _ _ (field (.ref z) 2 >>= _) _ _ _
  refine wpAny_bind (wpAny_field hz rfl (x := .bool false) rfl ?_)
  show wpAny _ _ (field (.ref z) 3 >>= _) _ _ _
  refine wpAny_bind (wpAny_field hz rfl (x := .ref TI) rfl ?_)
  refine wpAny_bind (wpAny_seqItems hTI rfl ?_)
  show wpAny _ _ (Builtin.SmallTypes.ownedTupleIsFree (.ref z) >>= _) _ _ _
  refine wpAny_bind (za_own hz hv ?_ fun g0 hz0 hs0 => ?_)
  · simp only [if_true]
    refine wpAny_bind (wpAny_rule ?_)
    refine wpAny_bind (wpAny_field hz rfl (x := .ref TO) rfl ?_)
    refine wpAny_bind (wpAny_setField_rec hz (by simp) fun g0 hz0 hs0 => ?_)
    replace hz0 : IsZA g0 z TI TO .ellipsis f := hz0
    replace hs0 : Heap.SameBut z hp g0 := hs0
    refine wpAny_bind ?_
    simp only [List.zipIdx_cons, List.zipIdx_nil, List.forIn_cons, List.forIn_nil]
    refine wpAny_bind (wpAny_bind (wpAny_onRaise ?_))
    show wpAny _ _ (Builtin.SmallTypes.nextOf (.ref i1) >>= _) _ _ ⟨g0, g, d, tk0, os⟩
    refine wpAny_bind (D1.item i _ _ _ hlt1 (D1.over st1 hs0 S.zf1) fun x1 p1 tk1 hx1 sn1 hp1 => wpAny_pure ?_)
    replace hp1 : Heap.SameBut i1 g0 p1 := hp1
    have hU1 : IsTupOf2 p1 TO a1 a2 := hp1.extBut _ _ S.Ti1 (hs0.extBut _ _ S.TOz hTO)
    refine wpAny_bind (wpAny_seqItems (s := ⟨p1, g, d, tk1, os⟩) hU1 rfl ?_)
    refine wpAny_bind (updateSeq_IsTupOf2 (s := ⟨p1, g, d, tk1, os⟩) hU1 fun g1 hT1 hs1 => ?_)
    replace hT1 : IsTupOf2 g1 TO x1 a2 := hT1
    replace hs1 : Heap.SameBut TO p1 g1 := hs1
    refine wpAny_bind (wpAny_letGo (wpAny_pure ?_))
    refine wpAny_bind (wpAny_bind (wpAny_onRaise ?_))
    show wpAny _ _ (Builtin.SmallTypes.nextOf (.ref i2) >>= _) _ _ ⟨g1, g, d, tk1, os⟩
    refine wpAny_bind (D2.item i _ _ _ hlt2 (D2.over (D2.over (D2.over st2 hs0 S.zf2) hp1 S.sep1_2) hs1 S.Tf2) fun x2 p2 tk2 hx2 sn2 hp2 => wpAny_pure ?_)
    replace hp2 : Heap.SameBut i2 g1 p2 := hp2
    have hU2 : IsTupOf2 p2 TO x1 a2 := hp2.extBut _ _ S.Ti2 hT1
    refine wpAny_bind (wpAny_seqItems (s := ⟨p2, g, d, tk2, os⟩) hU2 rfl ?_)
    refine wpAny_bind (updateSeq_IsTupOf2 (s := ⟨p2, g, d, tk2, os⟩) hU2 fun g2 hT2 hs2 => ?_)
    replace hT2 : IsTupOf2 g2 TO x1 x2 := hT2
    replace hs2 : Heap.SameBut TO p2 g2 := hs2
    refine wpAny_bind (wpAny_letGo (wpAny_pure (wpAny_pure ?_)))
    refine wpAny_bind (wpAny_seqItems (s := ⟨g2, g, d, tk2, os⟩) hT2 rfl ?_)
    refine wpAny_bind (wpAny_newTuple ?_)
    have hsz : g2.objs.size = hp.objs.size := by rw [hs2.1, hp2.1, hs1.1, hp1.1, hs0.1]
    have hzz : IsZA g2 z TI TO .ellipsis f := (hs2.extBut _ _ S.TOz.symm (hp2.extBut _ _ S.zi2 (hs1.extBut _ _ S.TOz.symm (hp1.extBut _ _ S.zi1 hz0))))
    have hkk : ∀ c o, c ≠ z → c ≠ TO → c ≠ i1 → c ≠ i2 → hp.get? c = some o → g2.get? c = some o := fun c o cz cT c1 c2 e =>
      (hs2.extBut _ _ cT (hp2.extBut _ _ c2 (hs1.extBut _ _ cT (hp1.extBut _ _ c1 (hs0.extBut _ _ cz e)))))
    have hj1 : St1 (i + 1) g2 := (D1.over (D1.over (D1.over sn1 hs1 S.Tf1) hp2 S.sep2_1) hs2 S.Tf1)
    have hj2 : St2 (i + 1) g2 := (D2.over sn2 hs2 S.Tf2)
    have hzlt : z < g2.objs.size := Heap.lt_size hzz
    show wpAny _ _ (Builtin.SmallTypes.ownedTupleHandOut (.ref z) (.ref g2.objs.size) >>= _) _ _ ⟨g2.push { cls := .type "tuple", data := .seq #[x1, x2] }, g, d, tk2, os⟩
    refine wpAny_bind ?_
    unfold Builtin.SmallTypes.ownedTupleHandOut
    have hz₆ : IsZA (g2.push { cls := .type "tuple", data := .seq #[x1, x2] }) z TI TO .ellipsis f := Heap.get?_push_of_some _ hzz
    refine wpAny_bind (wpAny_setField_rec hz₆ (by simp) fun h₇ hz₇ hs₇ => ?_)
    replace hz₇ : IsZA h₇ z TI TO (rawInt g2.objs.size) f := hz₇
    refine wpAny_setField_rec hz₇ (by simp) fun h₈ hz₈ hs₈ => ?_
    replace hz₈ : IsZA h₈ z TI TO (rawInt g2.objs.size) false := hz₈
    replace hs₇ : Heap.SameBut z (g2.push { cls := .type "tuple", data := .seq #[x1, x2] }) h₇ := hs₇
    replace hs₈ : Heap.SameBut z h₇ h₈ := hs₈
    have up : ∀ c o, c ≠ z → g2.get? c = some o → h₈.get? c = some o := fun c o c1 e => hs₈.extBut _ _ c1 (hs₇.extBut _ _ c1 (Heap.get?_push_of_some _ e))
    have hT₈ : IsTupOf2 h₈ g2.objs.size x1 x2 := hs₈.extBut _ _ (Nat.ne_of_gt hzlt) (hs₇.extBut _ _ (Nat.ne_of_gt hzlt) (Heap.get?_push_size _ rfl))
    have hz8 : h₈.objs.size = g2.objs.size + 1 := by rw [hs₈.1, hs₇.1, Heap.size_push]
    rw [hsz] at hz₈ hT₈ hz8
    refine wpAny_pure ⟨_, rfl, ?_⟩
    show Q (.ref g2.objs.size) ⟨h₈, g, d, tk2, os⟩
    rw [hsz]
    exact hQ x1 x2 h₈ tk2 hx1 hx2 ⟨_, _, hz₈, .inr ⟨_, rfl⟩⟩ ⟨_, _, up _ _ S.TOz hT2⟩ (D1.frame _ _ _ hj1 fun b hb o e => up b o (fun q => S.zf1 (q ▸ hb)) e) (D2.frame _ _ _ hj2 fun b hb o e => up b o (fun q => S.zf2 (q ▸ hb)) e) hT₈ hz8 fun c o cz cT c1 c2 e => up c o cz (hkk c o cz cT c1 c2 e)
  · replace hs0 : Heap.SameBut z hp g0 := hs0
    simp only [Bool.false_eq_true, if_false]
    refine wpAny_bind ?_
    rw [← Array.forIn_toList]
    simp only [List.forIn_cons, List.forIn_nil]
    refine wpAny_bind (wpAny_bind (wpAny_holding ?_))
    show wpAny _ _ (Builtin.SmallTypes.nextOf (.ref i1) >>= _) _ _ ⟨g0, g, d, tk0, os⟩
    refine wpAny_bind (D1.item i _ _ _ hlt1 (D1.over st1 hs0 S.zf1) fun x1 p1 tk1 hx1 sn1 hp1 => wpAny_pure ?_)
    replace hp1 : Heap.SameBut i1 g0 p1 := hp1
    refine wpAny_pure ?_
    refine wpAny_bind (wpAny_bind (wpAny_holding ?_))
    show wpAny _ _ (Builtin.SmallTypes.nextOf (.ref i2) >>= _) _ _ ⟨p1, g, d, tk1, os⟩
    refine wpAny_bind (D2.item i _ _ _ hlt2 (D2.over (D2.over st2 hs0 S.zf2) hp1 S.sep1_2) fun x2 p2 tk2 hx2 sn2 hp2 => wpAny_pure ?_)
    replace hp2 : Heap.SameBut i2 p1 p2 := hp2
    refine wpAny_pure (wpAny_pure ?_)
    show wpAny _ _ (newTuple [x1, x2] >>= _) _ _ ⟨p2, g, d, tk2, os⟩
    refine wpAny_bind (wpAny_newTuple ?_)
    have hsz : p2.objs.size = hp.objs.size := by rw [hp2.1, hp1.1, hs0.1]
    have hzz : IsZA p2 z TI TO v true := hp2.extBut _ _ S.zi2 (hp1.extBut _ _ S.zi1 hz0)
    have hk : ∀ c o, c ≠ z → c ≠ i1 → c ≠ i2 → hp.get? c = some o → p2.get? c = some o := fun c o c1 c2 c3 e => hp2.extBut _ _ c3 (hp1.extBut _ _ c2 (hs0.extBut _ _ c1 e))
    have hj1 : St1 (i + 1) p2 := D1.over sn1 hp2 S.sep2_1
    refine wpAny_pure ⟨_, rfl, ?_⟩
    show Q (.ref p2.objs.size) ⟨p2.push { cls := .type "tuple", data := .seq #[x1, x2] }, g, d, tk2, os⟩
    have hp' : IsTupOf2 (p2.push { cls := .type "tuple", data := .seq #[x1, x2] }) p2.objs.size x1 x2 := Heap.get?_push_size _ rfl
    have hz4 : (p2.push { cls := .type "tuple", data := .seq #[x1, x2] }).objs.size = p2.objs.size + 1 := Heap.size_push ..
    rw [hsz] at hp' hz4 ⊢
    exact hQ x1 x2 _ tk2 hx1 hx2 ⟨_, _, Heap.get?_push_of_some _ hzz, hv⟩ ⟨_, _, Heap.get?_push_of_some _ (hk TO _ S.TOz S.Ti1 S.Ti2 hTO)⟩ (D1.frame _ _ _ hj1 fun b _ o e => Heap.get?_push_of_some _ e) (D2.frame _ _ _ sn2 fun b _ o e => Heap.get?_push_of_some _ e) hp' hz4 fun c o c1 _ c2 c3 e => Heap.get?_push_of_some _ (hk c o c1 c2 c3 e)
theorem za_end {Q : Fin → Shared → Prop} (S : ZipSep2 z TI TO i1 i2 fp1 fp2) (D1 : Draws prog w A i1 fp1 n1 P1 St1) (D2 : Draws prog w A i2 fp2 n2 P2 St2)
    (hz : IsZA s.heap z TI TO v f) (hv : OwnV v) (hTI : IsTupOf2 s.heap TI (.ref i1) (.ref i2)) (hTO : IsTupOf2 s.heap TO a1 a2) (st1 : St1 i s.heap) (st2 : St2 i s.heap) (hle1 : i ≤ n1) (hle2 : i ≤ n2) (hend : i = n1 ∨ i = n2)
    (hE : ∀ h' tk e, (∀ c o, c ≠ z → c ≠ TO → c ≠ i1 → c ≠ i2 → s.heap.get? c = some o → h'.get? c = some o) → (∃ o, h'.get? e = some o ∧ o.cls = .type "StopIteration") → E (.ref e) { s with heap := h', toks := tk }) :
    wpAny (model prog w) A (Builtin.«zip.__next__» ⟨[.ref z], []⟩) Q E s := by
  obtain ⟨hp, g, d, tk0, os⟩ := s
  show wpAny _ _ (field (.ref z) 2 >>= _) _ _ _
  refine wpAny_bind (wpAny_field hz rfl (x := .bool false) rfl ?_)
  show wpAny _ _ (field (.ref z) 3 >>= _) _ _ _
  refine wpAny_bind (wpAny_field hz rfl (x := .ref TI) rfl ?_)
  refine wpAny_bind (wpAny_seqItems hTI rfl ?_)
  show wpAny _ _ (Builtin.SmallTypes.ownedTupleIsFree (.ref z) >>= _) _ _ _
  refine wpAny_bind (za_own hz hv ?_ fun g0 hz0 hs0 => ?_)
  · simp only [if_true]
    refine wpAny_bind (wpAny_rule ?_)
    refine wpAny_bind (wpAny_field hz rfl (x := .ref TO) rfl ?_)
    refine wpAny_bind (wpAny_setField_rec hz (by simp) fun g0 hz0 hs0 => ?_)
    replace hz0 : IsZA g0 z TI TO .ellipsis f := hz0
    replace hs0 : Heap.SameBut z hp g0 := hs0
    refine wpAny_bind ?_
    simp only [List.zipIdx_cons, List.zipIdx_nil, List.forIn_cons, List.forIn_nil]
    refine wpAny_bind (wpAny_bind (wpAny_onRaise ?_))
    show wpAny _ _ (Builtin.SmallTypes.nextOf (.ref i1) >>= _) _ _ ⟨g0, g, d, tk0, os⟩
    by_cases hlt1 : i < n1
    · refine wpAny_bind (D1.item i _ _ _ hlt1 (D1.over st1 hs0 S.zf1) fun x1 p1 tk1 hx1 sn1 hp1 => wpAny_pure ?_)
      replace hp1 : Heap.SameBut i1 g0 p1 := hp1
      have hU1 : IsTupOf2 p1 TO a1 a2 := hp1.extBut _ _ S.Ti1 (hs0.extBut _ _ S.TOz hTO)
      refine wpAny_bind (wpAny_seqItems (s := ⟨p1, g, d, tk1, os⟩) hU1 rfl ?_)
      refine wpAny_bind (updateSeq_IsTupOf2 (s := ⟨p1, g, d, tk1, os⟩) hU1 fun g1 hT1 hs1 => ?_)
      replace hT1 : IsTupOf2 g1 TO x1 a2 := hT1
      replace hs1 : Heap.SameBut TO p1 g1 := hs1
      refine wpAny_bind (wpAny_letGo (wpAny_pure ?_))
      have hi2 : i = n2 := by omega
      refine wpAny_bind (wpAny_bind (wpAny_onRaise ?_))
      show wpAny _ _ (Builtin.SmallTypes.nextOf (.ref i2) >>= _) _ _ ⟨g1, g, d, tk1, os⟩
      refine wpAny_bind (D2.done ⟨g1, g, d, tk1, os⟩ _ _ (by rw [← hi2]; exact (D2.over (D2.over (D2.over st2 hs0 S.zf2) hp1 S.sep1_2) hs1 S.Tf2)) fun q e hq he => ?_)
      replace hq : Heap.ExtBut i2 g1 q := hq
      obtain ⟨oe, hoe, hce⟩ := he
      replace hoe : q.get? e = some oe := hoe
      have hzq : IsZA q z TI TO .ellipsis f := hq _ _ S.zi2 (hs1.extBut _ _ S.TOz.symm (hp1.extBut _ _ S.zi1 hz0))
      have hez : e ≠ z := fun x => by subst x; rw [hzq] at hoe; cases hoe; simp at hce
      refine wpAny_setField_rec (s := ⟨q, g, d, tk1, os⟩) hzq (by simp) fun q' _ hq' => ?_
      replace hq' : Heap.SameBut z q q' := hq'
      exact hE q' tk1 e (fun c o cz cT c1 c2 x => hq'.extBut _ _ cz (hq _ _ c2 (hs1.extBut _ _ cT (hp1.extBut _ _ c1 (hs0.extBut _ _ cz x))))) ⟨oe, hq'.extBut _ _ hez hoe, hce⟩
    · have hi1 : i = n1 := by omega
      refine wpAny_bind (D1.done ⟨g0, g, d, tk0, os⟩ _ _ (by rw [← hi1]; exact (D1.over st1 hs0 S.zf1)) fun q e hq he => ?_)
      replace hq : Heap.ExtBut i1 g0 q := hq
      obtain ⟨oe, hoe, hce⟩ := he
      replace hoe : q.get? e = some oe := hoe
      have hzq : IsZA q z TI TO .ellipsis f := hq _ _ S.zi1 hz0
      have hez : e ≠ z := fun x => by subst x; rw [hzq] at hoe; cases hoe; simp at hce
      refine wpAny_setField_rec (s := ⟨q, g, d, tk0, os⟩) hzq (by simp) fun q' _ hq' => ?_
      replace hq' : Heap.SameBut z q q' := hq'
      exact hE q' tk0 e (fun c o cz cT c1 c2 x => hq'.extBut _ _ cz (hq _ _ c1 (hs0.extBut _ _ cz x))) ⟨oe, hq'.extBut _ _ hez hoe, hce⟩
  · replace hs0 : Heap.SameBut z hp g0 := hs0
    simp only [Bool.false_eq_true, if_false]
    refine wpAny_bind ?_
    rw [← Array.forIn_toList]
    simp only [List.forIn_cons, List.forIn_nil]
    refine wpAny_bind (wpAny_bind (wpAny_holding ?_))
    show wpAny _ _ (Builtin.SmallTypes.nextOf (.ref i1) >>= _) _ _ ⟨g0, g, d, tk0, os⟩
    by_cases hlt1 : i < n1
    · refine wpAny_bind (D1.item i _ _ _ hlt1 (D1.over st1 hs0 S.zf1) fun x1 p1 tk1 hx1 sn1 hp1 => wpAny_pure ?_)
      replace hp1 : Heap.SameBut i1 g0 p1 := hp1
      refine wpAny_pure ?_
      have hi2 : i = n2 := by omega
      refine wpAny_bind (wpAny_bind (wpAny_holding ?_))
      show wpAny _ _ (Builtin.SmallTypes.nextOf (.ref i2) >>= _) _ _ ⟨p1, g, d, tk1, os⟩
      refine wpAny_bind (D2.done ⟨p1, g, d, tk1, os⟩ _ _ (by rw [← hi2]; exact (D2.over (D2.over st2 hs0 S.zf2) hp1 S.sep1_2)) fun q e hq he => ?_)
      replace hq : Heap.ExtBut i2 p1 q := hq
      exact hE q tk1 e (fun c o cz cT c1 c2 x => hq _ _ c2 (hp1.extBut _ _ c1 (hs0.extBut _ _ cz x))) he
    · have hi1 : i = n1 := by omega
      refine wpAny_bind (D1.done ⟨g0, g, d, tk0, os⟩ _ _ (by rw [← hi1]; exact (D1.over st1 hs0 S.zf1)) fun q e hq he => ?_)
      replace hq : Heap.ExtBut i1 g0 q := hq
      exact hE q tk0 e (fun c o cz cT c1 c2 x => hq _ _ c1 (hs0.extBut _ _ cz x)) he
end
end BNZ
namespace BNZ
open PySem PySem.Calls PySem.Spec PyProof.Rows L2
section
variable {prog : Program} {w : World} {A : Around} {E : Value → Shared → Prop} {s : Shared} {e z TI TO i1 i2 : Addr} {fp1 fp2 : List Addr} {n1 n2 i : Nat} {P1 P2 : Nat → Value → Prop} {St1 St2 : Nat → Heap → Prop} {f : Bool} {v a1 a2 old : Value} {c : Int}
/-- enumerate's next item over a zip: the pair T, in a pair with its number -/
theorem ez_item {Q : Value → Shared → Prop} (S : ZipSep2 z TI TO i1 i2 fp1 fp2) (D1 : Draws prog w A.in1 i1 fp1 n1 P1 St1) (D2 : Draws prog w A.in1 i2 fp2 n2 P2 St2) (he : IsEnum s.heap e z c old)
    (hz : IsZA s.heap z TI TO v f) (hv : OwnV v) (hTI : IsTupOf2 s.heap TI (.ref i1) (.ref i2)) (hTO : IsTupOf2 s.heap TO a1 a2) (st1 : St1 i s.heap) (st2 : St2 i s.heap) (hlt1 : i < n1) (hlt2 : i < n2)
    (ne : e ≠ z ∧ e ≠ TO ∧ e ≠ i1 ∧ e ≠ i2 ∧ e ∉ fp1 ∧ e ∉ fp2)
    (hQ : ∀ x1 x2 h₁ h' tk, P1 i x1 → P2 i x2 → IsEnumOut h' e z (c + 1) (.ref s.heap.objs.size) (s.heap.objs.size + 1) → (∃ v f, IsZA h' z TI TO v f ∧ OwnV v) → (∃ a1 a2, IsTupOf2 h' TO a1 a2) → St1 (i + 1) h' → St2 (i + 1) h' →
      IsTupOf2 h₁ s.heap.objs.size x1 x2 → h₁.objs.size = s.heap.objs.size + 1 → (∀ c o, c ≠ z → c ≠ TO → c ≠ i1 → c ≠ i2 → s.heap.get? c = some o → h₁.get? c = some o) →
      h'.get? (s.heap.objs.size + 1) = some { cls := .type "tuple", data := .seq #[.int c tk, .ref s.heap.objs.size] } → (∀ b o, b ≠ e → h₁.get? b = some o → h'.get? b = some o) →
      Q (.ref (s.heap.objs.size + 1)) { s with heap := h', toks := tk + 1 }) :
    wpAny (model prog w) A (Builtin.«enumerate.__next__» ⟨[.ref e], []⟩) (fun fin s' => ∃ v, fin = .done (.ret v) ∧ Q v s') E s := by
  obtain ⟨hp, g, d, tk₀, os⟩ := s
  show wpAny _ _ (field (.ref e) 2 >>= _) _ _ _
  refine wpAny_bind (wpAny_field he rfl (x := .ref z) rfl ?_)
  have hTz : Shared.TypeIs ⟨hp, g, d, tk₀, os⟩ (.ref z) "zip" := ⟨_, hz, rfl⟩
  refine wpAny_bind ?_
  unfold Builtin.SmallTypes.nextOf
  refine wpAny_bind (wpAny_callSpecial?_slot (name := Str.ofString "__next__") hTz F.slot_zip_next (wpAny_call_entry F.slot_zip_next hTz F.entry_zip_next
    (za_item S D1 D2 hz hv hTI hTO st1 st2 hlt1 hlt2 fun x1 x2 h₁ tk y1 y2 zs tos s1' s2' hT hsz hk => wpAny_pure ?_) (F.args_zip_next_1 _)))
  obtain ⟨v', f', hz₁, hv'⟩ := zs
  obtain ⟨b1, b2, hTO₁⟩ := tos
  have he₁ : IsEnum h₁ e z c old := hk e _ ne.1 ne.2.1 ne.2.2.1 ne.2.2.2.1 he
  show wpAny _ _ (field (.ref e) 3 >>= _) _ _ ⟨h₁, g, d, tk, os⟩
  refine wpAny_bind (wpAny_field he₁ rfl (x := rawInt c) rfl ?_)
  show wpAny _ _ (field (.ref e) 4 >>= _) _ _ ⟨h₁, g, d, tk, os⟩
  refine wpAny_bind (wpAny_field he₁ rfl (x := .none) rfl ?_)
  show wpAny _ _ (mkInt c >>= _) _ _ ⟨h₁, g, d, tk, os⟩
  refine wpAny_bind (wpAny_mkInt ?_)
  show wpAny _ _ (setField (.ref e) 3 (rawInt (c + 1)) >>= _) _ _ ⟨h₁, g, d, tk + 1, os⟩
  refine wpAny_bind (wpAny_setField_rec he₁ (by simp) fun h₂ he₂ hs₂ => ?_)
  replace hs₂ : Heap.SameBut e h₁ h₂ := hs₂
  replace he₂ : IsEnum h₂ e z (c + 1) old := he₂
  show wpAny _ _ (setField (.ref e) 4 .none >>= _) _ _ ⟨h₂, g, d, tk + 1, os⟩
  refine wpAny_bind (wpAny_setField_rec he₂ (by simp) fun h₃ he₃ hs₃ => ?_)
  replace hs₃ : Heap.SameBut e h₂ h₃ := hs₃
  replace he₃ : IsEnum h₃ e z (c + 1) old := he₃
  show wpAny _ _ (newTuple [.int c tk, .ref hp.objs.size] >>= _) _ _ ⟨h₃, g, d, tk + 1, os⟩
  refine wpAny_bind (wpAny_newTuple ?_)
  have he₄ : IsEnum (h₃.push { cls := .type "tuple", data := .seq #[.int c tk, .ref hp.objs.size] }) e z (c + 1) old := Heap.get?_push_of_some _ he₃
  generalize hh₄ : h₃.push { cls := .type "tuple", data := .seq #[.int c tk, .ref hp.objs.size] } = h₄ at he₄
  have hsz3 : h₃.objs.size = hp.objs.size + 1 := by rw [hs₃.1, hs₂.1]; exact hsz
  have hel : e < hp.objs.size + 1 := Nat.lt_succ_of_lt (Heap.lt_size he)
  have ht₄ : h₄.get? (hp.objs.size + 1) = some { cls := .type "tuple", data := .seq #[.int c tk, .ref hp.objs.size] } := by rw [← hh₄, ← hsz3]; exact Heap.get?_push_size _ rfl
  have hk₄ : ∀ b o, b ≠ e → h₁.get? b = some o → h₄.get? b = some o := fun b o hbe hb => by
    rw [← hh₄]; exact Heap.get?_push_of_some _ (hs₃.extBut b o hbe (hs₂.extBut b o hbe hb))
  show wpAny _ _ (Builtin.SmallTypes.ownedTupleIsFree (.ref e) >>= _) _ _ ⟨h₄, g, d, tk + 1, os⟩
  rw [hsz3]
  clear hh₄ he₃ hs₃ he₂ hs₂ he₁ hsz3 h₃ h₂
  refine wpAny_bind ?_
  · unfold Builtin.SmallTypes.ownedTupleIsFree
    refine wpAny_bind (wpAny_field he₄ rfl (x := .none) rfl (wpAny_pure ?_))
    simp only [if_true]
    refine wpAny_bind (wpAny_rule ?_)
    refine wpAny_bind (wpAny_field he₄ rfl (x := old) rfl ?_)
    refine wpAny_bind (wpAny_setField_rec he₄ (by simp) fun h₅ he₅ hs₅ => ?_)
    replace hs₅ : Heap.SameBut e h₄ h₅ := hs₅
    replace he₅ : IsEnum h₅ e z (c + 1) (.ref hp.objs.size) := he₅
    show wpAny _ _ (Builtin.SmallTypes.ownedTupleHandOut (.ref e) (.ref (hp.objs.size + 1)) >>= _) _ _ ⟨h₅, g, d, tk + 1, os⟩
    refine wpAny_bind ?_
    · unfold Builtin.SmallTypes.ownedTupleHandOut
      refine wpAny_bind (wpAny_setField_rec he₅ (by simp) fun h₆ he₆ hs₆ => ?_)
      replace hs₆ : Heap.SameBut e h₅ h₆ := hs₆
      replace he₆ : IsEnumOut h₆ e z (c + 1) (.ref hp.objs.size) (hp.objs.size + 1) := he₆
      refine wpAny_setField_rec he₆ (by simp) fun h₇ he₇ hs₇ => ?_
      replace hs₇ : Heap.SameBut e h₆ h₇ := hs₇
      replace he₇ : IsEnumOut h₇ e z (c + 1) (.ref hp.objs.size) (hp.objs.size + 1) := he₇
      have hk₇ : ∀ b o, b ≠ e → h₁.get? b = some o → h₇.get? b = some o := fun b o hbe hb => hs₇.extBut b o hbe (hs₆.extBut b o hbe (hs₅.extBut b o hbe (hk₄ b o hbe hb)))
      refine wpAny_bind (wpAny_letGo (wpAny_pure ⟨_, rfl, hQ x1 x2 h₁ h₇ tk y1 y2 he₇ ⟨v', f', hk₇ _ _ ne.1.symm hz₁, hv'⟩ ⟨b1, b2, hk₇ _ _ ne.2.1.symm hTO₁⟩ ?_ ?_ hT hsz hk ?_ hk₇⟩))
      · exact D1.frame _ _ _ s1' fun b hb o y => hk₇ b o (fun q => ne.2.2.2.2.1 (q ▸ hb)) y
      · exact D2.frame _ _ _ s2' fun b hb o y => hk₇ b o (fun q => ne.2.2.2.2.2 (q ▸ hb)) y
      · exact hs₇.extBut _ _ (Nat.ne_of_gt hel) (hs₆.extBut _ _ (Nat.ne_of_gt hel) (hs₅.extBut _ _ (Nat.ne_of_gt hel) ht₄))
end
end BNZ
namespace BNZ
open PySem PySem.Calls PySem.Spec PyProof.Rows L2
open AutoSeq1 (wpAny_loadPart')
/-- the lists at a and b as they stand, the items in new pairs, these in new pairs with their numbers -/
def ItEz (K : PySem.W.Frag) (a b : Addr) : It :=
  ⟨fun i H => ∃ (xs ys : List V) (x y : V), SqL K H a xs ∧ SqL K H b ys ∧ xs[i]? = some x ∧ ys[i]? = some y,
    fun i H v H' => ∃ (T U : Addr) (x y : V), v = .ref U ∧ H T = none ∧ H U = none ∧ U ≠ T ∧ H' = upd (upd H T (.tup [x, y])) U (.tup [.int (i : Nat), .ref T]) ∧ (∀ xs, SqL K H a xs → xs[i]? = some x) ∧ ∀ ys, SqL K H b ys → ys[i]? = some y,
    fun i H => ∃ xs ys : List V, SqL K H a xs ∧ SqL K H b ys ∧ (xs.length = i ∨ ys.length = i) ∧ i ≤ xs.length ∧ i ≤ ys.length⟩
structure EzApart (e z TI TO i1 i2 a b : Addr) : Prop where
  S : ZipSep2 z TI TO i1 i2 [i1, a] [i2, b]
  ne : e ≠ z ∧ e ≠ TO ∧ e ≠ i1 ∧ e ≠ i2 ∧ e ∉ [i1, a] ∧ e ∉ [i2, b]
  eT : e ≠ TI
  a1 : a ≠ i1
  b2 : b ≠ i2
theorem turn_ez {P : Program} {w : World} {K : PySem.W.Frag} {elts : List Expr} {kk : Nat} {tpos : Pos} {e z TI TO i1 i2 a b : Addr} (D : EzApart e z TI TO i1 i2 a b) :
    Turn P w K (.Tuple elts kk tpos) (ItEz K a b) [e, z, TI, TO, i1, i2] e (fun i h => (∃ old, IsEnum h e z (i : Nat) old) ∧ (∃ v f, IsZA h z TI TO v f ∧ OwnV v) ∧ IsTupOf2 h TI (.ref i1) (.ref i2) ∧ (∃ x y, IsTupOf2 h TO x y) ∧ h.IsListIter i1 a i ∧ h.IsListIter i2 b i) where
  mem := by simp
  obj := fun i h st c hc => by
    obtain ⟨⟨old, he⟩, ⟨v, f, hz, _⟩, hTI, ⟨x, y, hTO⟩, ⟨o1, e1, _, d1⟩, ⟨o2, e2, _, d2⟩⟩ := st
    have e' : c = e ∨ c = z ∨ c = TI ∨ c = TO ∨ c = i1 ∨ c = i2 := by simpa using hc
    rcases e' with q | q | q | q | q | q
    · rw [q]; exact ⟨_, he, fun v q => nomatch q⟩
    · rw [q]; exact ⟨_, hz, fun v q => nomatch q⟩
    · rw [q]; exact ⟨_, hTI, fun v q => nomatch q⟩
    · rw [q]; exact ⟨_, hTO, fun v q => nomatch q⟩
    · rw [q]; exact ⟨o1, e1, fun v q => by rw [d1] at q; cases q⟩
    · rw [q]; exact ⟨o2, e2, fun v q => by rw [d2] at q; cases q⟩
  keep := fun i h h' st k => by
    obtain ⟨⟨old, he⟩, ⟨v, f, hz, hv⟩, hTI, ⟨x, y, hTO⟩, h1, h2⟩ := st
    exact ⟨⟨old, k e (by simp) _ he⟩, ⟨v, f, k z (by simp) _ hz, hv⟩, k TI (by simp) _ hTI, ⟨x, y, k TO (by simp) _ hTO⟩, h1.at fun o q => k i1 (by simp) o q, h2.at fun o q => k i2 (by simp) o q⟩
  item := by
    intro X hP hw hK hc i pins s σ H E I hf st hg
    subst hP hw hK
    obtain ⟨⟨old, he⟩, ⟨v, f, hz, hv⟩, hTI, ⟨x0, y0, hTO⟩, h1, h2⟩ := st
    obtain ⟨xs, ys, x, y, hqx, hqy, hx, hy⟩ := hg
    obtain ⟨its, rv, p, _⟩ := I.list hqx
    obtain ⟨its2, rv2, p2, _⟩ := I.list hqy
    obtain ⟨u, hu, ru⟩ := rv.get hx
    obtain ⟨u2, hu2, ru2⟩ := rv2.get hy
    have hh : X.A.in1.in1.handled = none := I.ok.hd hc
    have D1 := Draws.list (prog := X.prog) (w := X.w) (A := X.A.in1.in1) hh i1 a D.a1 its.toArray
    have D2 := Draws.list (prog := X.prog) (w := X.w) (A := X.A.in1.in1) hh i2 b D.b2 its2.toArray
    have hel : e < s.heap.objs.size := Heap.lt_size he
    have hTe : s.TypeIs (.ref e) "enumerate" := ⟨_, he, rfl⟩
    have lu := at_lt' hu
    have lu2 := at_lt' hu2
    unfold pyNext
    refine wpAny_bind (wpAny_attempt (wpAny_callSpecial?_slot (name := Str.ofString "__next__") hTe F.slot_enumerate_next (wpAny_call_entry F.slot_enumerate_next hTe F.entry_enumerate_next
      (ez_item D.S D1 D2 he hz hv hTI hTO ⟨h1, p.isList⟩ ⟨h2, p2.isList⟩ (by simpa using lu) (by simpa using lu2) D.ne fun x1 x2 g₁ g' tk y1 y2 ho zs tos s1' s2' hT hsz hk hU hk' => wpAny_pure ?_) (F.args_enumerate_next_1 _))))
    have ex1 : u = x1 := by simpa [hu] using y1
    have ex2 : u2 = x2 := by simpa [hu2] using y2
    subst ex1 ex2
    refine ⟨_, rfl, wpAny_letOwnedTupleGo_enum (s := { s with heap := g', toks := tk + 1 }) ho fun h'' he' sb => ?_⟩
    have k2 : ∀ c o, c ≠ e → g₁.get? c = some o → h''.get? c = some o := fun c o hc q => (sb.2 c hc).trans (hk' c o hc q)
    have hT1 : g₁.get? s.heap.objs.size = some { cls := .type "tuple", data := .seq #[u, u2] } := hT
    have hU2 : h''.get? (s.heap.objs.size + 1) = some { cls := .type "tuple", data := .seq #[.int (i : Nat) tk, .ref s.heap.objs.size] } := (sb.2 _ (Nat.ne_of_gt (Nat.lt_succ_of_lt hel))).trans hU
    have I1 : Inv X pins σ (upd H s.heap.objs.size (.tup [x, y])) { s with heap := g₁, toks := tk } :=
      I.turnedNew (t' := tk) (ch := [e, z, TI, TO, i1, i2]) (fun c o hb q => hk c o (fun q' => hb (by simp [q'])) (fun q' => hb (by simp [q'])) (fun q' => hb (by simp [q'])) (fun q' => hb (by simp [q'])) q) hf (Nat.le_refl _)
        ⟨by show 2 ≤ sizeLine; decide, [u, u2], .cons ru (.cons ru2 .nil), ⟨_, hT1, rfl, _, rfl⟩⟩
    have hfe : ∀ b ∈ [e], FpOk X pins (upd H s.heap.objs.size (.tup [x, y])) b := fun b hb => by
      rw [List.mem_singleton.mp hb]
      have q := hf e (by simp)
      exact ⟨by rw [upd_ne (Nat.ne_of_lt hel)]; exact q.1, q.2⟩
    have I2 : Inv X pins σ (upd (upd H s.heap.objs.size (.tup [x, y])) (s.heap.objs.size + 1) (.tup [.int (i : Nat), .ref s.heap.objs.size])) { s with heap := h'', toks := tk + 1 } :=
      I1.turnedNew (t' := tk + 1) (ch := [e]) (fun c o hb q => k2 c o (fun q' => hb (by simp [q'])) q) hfe (by show g₁.objs.size ≤ _; rw [hsz]; exact Nat.le_refl _)
        ⟨by show 2 ≤ sizeLine; decide, [.int (i : Nat) tk, .ref s.heap.objs.size], .cons ⟨_, rfl⟩ (.cons rfl .nil), ⟨_, hU2, rfl, _, rfl⟩⟩
    have hfN : H s.heap.objs.size = none := I.hok.fresh (Nat.le_refl _)
    have hfN1 : H (s.heap.objs.size + 1) = none := I.hok.fresh (Nat.le_succ _)
    obtain ⟨v', f', hz', hv'⟩ := zs
    obtain ⟨b1, b2, hTO'⟩ := tos
    refine ⟨.ref (s.heap.objs.size + 1), _, I2, rfl, ⟨s.heap.objs.size, s.heap.objs.size + 1, x, y, rfl, hfN, hfN1, Nat.succ_ne_self _, rfl, fun l hl => by rw [I.list_inj hl hqx]; exact hx, fun l hl => by rw [I.list_inj hl hqy]; exact hy⟩,
      ⟨⟨.ref s.heap.objs.size, ?_⟩, ⟨v', f', (sb.2 _ D.ne.1.symm).trans hz', hv'⟩, k2 _ _ D.eT.symm (hk _ _ D.S.TIz D.S.TITO D.S.TIi1 D.S.TIi2 hTI), ⟨b1, b2, (sb.2 _ D.ne.2.1.symm).trans hTO'⟩, s1'.1.at fun o q => (sb.2 _ D.ne.2.2.1.symm).trans q, s2'.1.at fun o q => (sb.2 _ D.ne.2.2.2.1.symm).trans q⟩, fun c hcm => ?_⟩
    · have e1 : ((i + 1 : Nat) : Int) = (i : Int) + 1 := by omega
      rw [e1]; exact he'
    · have hlt : c < s.heap.objs.size := by
        have e' : c = e ∨ c = z ∨ c = TI ∨ c = TO ∨ c = i1 ∨ c = i2 := by simpa using hcm
        rcases e' with q | q | q | q | q | q
        · rw [q]; exact hel
        · rw [q]; exact Heap.lt_size hz
        · rw [q]; exact Heap.lt_size hTI
        · rw [q]; exact Heap.lt_size hTO
        · rw [q]; obtain ⟨_, e1, _⟩ := h1; exact Heap.lt_size e1
        · rw [q]; obtain ⟨_, e2, _⟩ := h2; exact Heap.lt_size e2
      rw [upd_ne (Nat.ne_of_lt (Nat.lt_succ_of_lt hlt)), upd_ne (Nat.ne_of_lt hlt)]
      exact (hf c hcm).1
  done := by
    intro X hP hw hK hc i pins s σ H E I hf st hg
    subst hP hw hK
    obtain ⟨⟨old, he⟩, ⟨v, f, hz, hv⟩, hTI, ⟨x0, y0, hTO⟩, h1, h2⟩ := st
    obtain ⟨xs, ys, hqx, hqy, hend, hle1, hle2⟩ := hg
    obtain ⟨its, rv, p, _⟩ := I.list hqx
    obtain ⟨its2, rv2, p2, _⟩ := I.list hqy
    have l1 := rv.length
    have l2 := rv2.length
    have hh : X.A.in1.in1.handled = none := I.ok.hd hc
    have D1 := Draws.list (prog := X.prog) (w := X.w) (A := X.A.in1.in1) hh i1 a D.a1 its.toArray
    have D2 := Draws.list (prog := X.prog) (w := X.w) (A := X.A.in1.in1) hh i2 b D.b2 its2.toArray
    have hTe : s.TypeIs (.ref e) "enumerate" := ⟨_, he, rfl⟩
    have hTz : s.TypeIs (.ref z) "zip" := ⟨_, hz, rfl⟩
    unfold pyNext
    refine wpAny_bind (wpAny_attempt (wpAny_callSpecial?_slot (name := Str.ofString "__next__") hTe F.slot_enumerate_next
      (wpAny_call_entry F.slot_enumerate_next hTe F.entry_enumerate_next ?_ (F.args_enumerate_next_1 _))))
    show wpAny _ _ (field (.ref e) 2 >>= _) _ _ _
    refine wpAny_bind (wpAny_field he rfl (x := .ref z) rfl ?_)
    refine wpAny_bind ?_
    unfold Builtin.SmallTypes.nextOf
    refine wpAny_bind (wpAny_callSpecial?_slot (name := Str.ofString "__next__") hTz F.slot_zip_next (wpAny_call_entry F.slot_zip_next hTz F.entry_zip_next
      (za_end D.S D1 D2 hz hv hTI hTO ⟨h1, p.isList⟩ ⟨h2, p2.isList⟩ (by simp; omega) (by simp; omega) (by simp; omega) fun h' tk x hk hx => ?_) (F.args_zip_next_1 _)))
    obtain ⟨o, ho, hcl⟩ := hx
    refine wpAny_bind (wpAny_isInstance (T := "StopIteration") (b := true) ⟨o, ho, hcl⟩ isSubtype_stop ?_)
    exact wpAny_pure ⟨rfl, I.turnedL (t' := tk) (ch := [e, z, TI, TO, i1, i2]) (fun c o hb q => hk c o (fun q' => hb (by simp [q'])) (fun q' => hb (by simp [q'])) (fun q' => hb (by simp [q'])) (fun q' => hb (by simp [q'])) q) hf⟩
  self := fun A i s Q E st h => let ⟨⟨_, he⟩, _⟩ := st; wpAny_pyIter_enum he h
where
  at_lt' {α : Type} {l : List α} {i : Nat} {x : α} (h : l[i]? = some x) : i < l.length := (List.getElem?_eq_some_iff.mp h).1
end BNZ
namespace BNZ
open PySem PySem.Calls PySem.Spec PyProof.Rows L2
open AutoSeq1 (wpAny_loadPart')
abbrev enumOf (z : Addr) : Obj := { cls := .type "enumerate", data := .fields #[.none, .bool false, .ref z, rawInt 0, .none, .none] }
theorem meets_enumerate_newZ (z TI TO : Addr) :
    Meets (Builtin.«enumerate.__new__» ⟨[.type "enumerate", .ref z], []⟩) (fun _ R s => IsZip s.heap z TI TO .none ∧ R (.ok (.ret (.ref s.heap.objs.size))) { s with heap := s.heap.push (enumOf z) }) :=
  .of_wp fun prog w A R s h => by
    obtain ⟨hp, g, d, tk, os⟩ := s; obtain ⟨hl, h⟩ := h
    have hsub := sub_enumerate
    have hZ : IsZip (Shared.heap ⟨hp, g, d, tk, os⟩) z TI TO .none := hl
    wp_walk using wpAny_loadPart' hl
    refine wpAny_stack_any fun st => wpAny_pure ?_
    split
    · rename_i c _ _ _ _ _
      cases (c == Value.type "enumerate")
      · wp_walk using wpAny_loadPart' hl, wpAny_pyIter_zip hZ
        exact ⟨_, rfl, h⟩
      · wp_walk using wpAny_loadPart' hl, wpAny_pyIter_zip hZ
        exact ⟨_, rfl, h⟩
    · wp_walk using wpAny_loadPart' hl, wpAny_pyIter_zip hZ
      exact ⟨_, rfl, h⟩
section
variable {prog : Program} {w : World} {A : Around} {E : Value → Shared → Prop} {s : Shared}
theorem call_enumZ {z TI TO : Addr} {Q : Value → Shared → Prop} (hz : IsZip s.heap z TI TO .none)
    (h : Q (.ref s.heap.objs.size) { s with heap := s.heap.push (enumOf z) }) : wpAny (model prog w) A (call (.type "enumerate") [.ref z]) Q E s := by
  refine callType_new F.called_enumerate (by decide) (F.typeCall_enumerate_1 _) (F.newCall_enumerate_1 _) (fun obj => F.args_object_init_2 obj _) F.entry_enumerate_new
    (meets_enumerate_newZ z TI TO) ⟨hz, ?_⟩
  exact ⟨⟨_, Heap.get?_push_size _ rfl, rfl⟩, h⟩
end
def iEz (K : PySem.W.Frag) (ta : TA) : TI := fun σ H R => ta σ H fun vs H1 => ∃ a b xs ys, vs = [.ref a, .ref b] ∧ SqL K H1 a xs ∧ SqL K H1 b ys ∧ R (ItEz K a b) H1
theorem pi_ez {X : Cx} {e e2 : Expr} {ta : TA} {p p2 pos pos2 tpos : Pos} {elts : List Expr} {kk : Nat} (hge : Gl X "enumerate") (hme : X.mg "enumerate" = none) (hg : Gl X "zip") (hm : X.mg "zip" = none) (ha : PA X [e, e2] ta)
    (hso : starEach [.Call (.Name "zip" p2) [e, e2] [] pos2] X.env = (false, eval (.Call (.Name "zip" p2) [e, e2] [] pos2) X.env) :: starEach [] X.env := by rfl)
    (hs : starEach [e, e2] X.env = (false, eval e X.env) :: starEach [e2] X.env := by rfl) (hpl : (backTo pos2 (starEach [e2] X.env)).any (·.1) = false := by rfl) :
    PI X (.Tuple elts kk tpos) (.Call (.Name "enumerate" p) [.Call (.Name "zip" p2) [e, e2] [] pos2] [] pos) (iEz X.K ta) := by
  refine ⟨fun pins s σ H R I h => ?_⟩
  refine Call_ (ld_blt I hge hme boot_enumerate (PyProof.Rows.callWith_type1 ?_ hso rfl))
  rw [hso]
  show wpAny _ _ (spliced ((false, eval (.Call (.Name "zip" p2) [e, e2] [] pos2) X.env) :: backTo pos (starEach [] X.env))) _ _ s
  refine Calls.spliced_cons ?_
  refine Call_ (ld_blt I hg hm PyProof.Rows.boot_zip (PyProof.Rows.callWith_type1 (thn (ha.run pos2 pins s σ H _ I h) fun us s1 ⟨vs, H1, I1, r1, q1⟩ => ?_) hs hpl))
  obtain ⟨a, b, xs, ys, ex, hqx, hqy, q⟩ := q1
  subst ex
  cases r1 with
  | cons r rr =>
    cases rr with
    | cons r' rr =>
      cases rr
      cases r
      cases r'
      obtain ⟨its, rv, p1, _⟩ := I1.list hqx
      obtain ⟨its2, rv2, p2, _⟩ := I1.list hqy
      have la : a < s1.heap.objs.size := p1.lt
      have lb : b < s1.heap.objs.size := p2.lt
      refine call_zip_2 p1.isList p2.isList fun h' hz hTI hTO h1 h2 hsz hk => ?_
      refine Calls.spliced_nil ?_
      refine call_enumZ hz ?_
      have up : ∀ c o, h'.get? c = some o → (h'.push (enumOf (s1.heap.objs.size + 4))).get? c = some o := fun c o e => Heap.get?_push_of_some _ e
      have he : IsEnum (h'.push (enumOf (s1.heap.objs.size + 4))) (s1.heap.objs.size + 5) (s1.heap.objs.size + 4) 0 .none := by
        have := Heap.get?_push_size h' (o := enumOf (s1.heap.objs.size + 4)) rfl
        rw [hsz] at this; exact this
      show wpAny _ _ (pyIter (.ref h'.objs.size)) _ _ _
      rw [hsz]
      refine wpAny_pyIter_enum he ?_
      have I2 : Inv X pins σ H1 { s1 with heap := h'.push (enumOf (s1.heap.objs.size + 4)) } := I1.kept (t' := s1.toks) fun c o e => up c o (hk c o e)
      have ne5 : ∀ k : Nat, k < 5 → (s1.heap.objs.size + 5 : Nat) ≠ s1.heap.objs.size + k := fun k hk => by omega
      have D : EzApart (s1.heap.objs.size + 5) (s1.heap.objs.size + 4) (s1.heap.objs.size + 2) (s1.heap.objs.size + 3) s1.heap.objs.size (s1.heap.objs.size + 1) a b :=
        ⟨zip_sep2 (N := s1.heap.objs.size) (fp1 := [a]) (fp2 := [b]) (fun c hc => by rw [List.mem_singleton.mp hc]; exact la) (fun c hc => by rw [List.mem_singleton.mp hc]; exact lb),
          ⟨ne5 4 (by decide), ne5 3 (by decide), ne5 0 (by decide), ne5 1 (by decide), fun hc => by
            rcases List.mem_cons.mp hc with e | e
            · exact ne5 0 (by decide) e
            · have q : (s1.heap.objs.size + 5 : Nat) = a := List.mem_singleton.mp e
              exact absurd la (Nat.not_lt.mpr (by rw [← q]; exact Nat.le_add_right _ _)), fun hc => by
            rcases List.mem_cons.mp hc with e | e
            · exact ne5 1 (by decide) e
            · have q : (s1.heap.objs.size + 5 : Nat) = b := List.mem_singleton.mp e
              exact absurd lb (Nat.not_lt.mpr (by rw [← q]; exact Nat.le_add_right _ _))⟩, ne5 2 (by decide), Nat.ne_of_lt la, Nat.ne_of_lt (Nat.lt_succ_of_lt lb)⟩
      refine ⟨s1.heap.objs.size + 5, [s1.heap.objs.size + 5, s1.heap.objs.size + 4, s1.heap.objs.size + 2, s1.heap.objs.size + 3, s1.heap.objs.size, s1.heap.objs.size + 1], _, _, H1, rfl, I2, turn_ez D,
        ⟨⟨.none, he⟩, ⟨.none, false, up _ _ hz, .inl rfl⟩, up _ _ hTI, ⟨_, _, up _ _ hTO⟩, h1.at fun o q => up _ o q, h2.at fun o q => up _ o q⟩, fun c hcm => ?_, q⟩
      have e' : c = s1.heap.objs.size + 5 ∨ c = s1.heap.objs.size + 4 ∨ c = s1.heap.objs.size + 2 ∨ c = s1.heap.objs.size + 3 ∨ c = s1.heap.objs.size ∨ c = s1.heap.objs.size + 1 := by simpa using hcm
      have hle : s1.heap.objs.size ≤ c := by
        rcases e' with z | z | z | z | z | z
        · rw [z]; exact Nat.le_add_right _ _
        · rw [z]; exact Nat.le_add_right _ _
        · rw [z]; exact Nat.le_add_right _ _
        · rw [z]; exact Nat.le_add_right _ _
        · rw [z]; exact Nat.le_refl _
        · rw [z]; exact Nat.le_add_right _ _
      exact I1.fpOk hle (I1.hok.fresh hle)
/-- a loop over it -/
theorem for_ez {K : PySem.W.Frag} {a b : Addr} {xs ys : List V} {g : TG} {tb : TS} {D : Ends} {σ : L2.St} {H : Hp} (Pv : Nat → L2.St → Hp → Prop) (h0 : Pv 0 σ H) (hq : ∀ i σ H, Pv i σ H → SqL K H a xs ∧ SqL K H b ys)
    (hs : ∀ (i : Nat) (x y : V) (T U : Addr) (σ : L2.St) (H : Hp), xs[i]? = some x → ys[i]? = some y → Pv i σ H → H T = none → H U = none → U ≠ T → g (.ref U) σ (upd (upd H T (.tup [x, y])) U (.tup [.int (i : Nat), .ref T])) fun σ2 H2 => tb { D with nx := Pv (i + 1), ct := Pv (i + 1), bk := D.nx } σ2 H2)
    (hd : ∀ σ H, Pv (min xs.length ys.length) σ H → D.nx σ H) :
    ∃ W : Nat → Nat → L2.St → Hp → Prop, (∃ m, W 0 m σ H) ∧ ∀ i m σ H, W i m σ H →
      ((ItEz K a b).stop i H ∧ D.nx σ H) ∨ ((ItEz K a b).go i H ∧ ∃ N : L2.St → Hp → Prop, (∀ σ' H', N σ' H' → ∃ m', m' < m ∧ W (i + 1) m' σ' H') ∧ ∀ v H', (ItEz K a b).yld i H v H' → g v σ H' fun σ2 H2 => tb { D with nx := N, ct := N, bk := D.nx } σ2 H2) := by
  refine ⟨fun i m σ H => m = min xs.length ys.length - i ∧ i ≤ min xs.length ys.length ∧ Pv i σ H, ⟨min xs.length ys.length, rfl, Nat.zero_le _, h0⟩, ?_⟩
  rintro i m σ H ⟨rfl, hi, p⟩
  obtain ⟨qx, qy⟩ := hq i σ H p
  by_cases hlt : i < min xs.length ys.length
  · have l1 : i < xs.length := by omega
    have l2 : i < ys.length := by omega
    have hx : xs[i]? = some xs[i] := List.getElem?_eq_getElem l1
    have hy : ys[i]? = some ys[i] := List.getElem?_eq_getElem l2
    refine .inr ⟨⟨xs, ys, _, _, qx, qy, hx, hy⟩, Pv (i + 1), fun σ' H' p' => ⟨min xs.length ys.length - (i + 1), by omega, rfl, hlt, p'⟩, fun v H' y => ?_⟩
    obtain ⟨T, U, x', y', rfl, hT, hU, hne, rfl, f1, f2⟩ := y
    exact hs i x' y' T U σ H (f1 xs qx) (f2 ys qy) p hT hU hne
  · have e : i = min xs.length ys.length := by omega
    subst e
    exact .inl ⟨⟨xs, ys, qx, qy, by omega, by omega, by omega⟩, hd σ H p⟩
end BNZ
namespace BN
open PySem L2 PyProof.Rows
/-! ### first_parting, parting -/
def encPt : Option PT → PyData
  | none => .none
  | some (k, x, i, j) => .tuple [.int (k : Int), .str x, .int i, .int j]
theorem tup_pt (o : Option PT) : tupD (encPt o) = true := by
  cases o with
  | none => rfl
  | some r => obtain ⟨k, x, i, j⟩ := r; simp [encPt, tupD, tupDs]
theorem inv_row {K : PySem.W.Frag} {H : Hp} {v : V} {r : Row} (h : Dp K H v (encRow r)) : ∃ t, v = .ref t ∧ SqT K H t [.str r.1, .int (r.2.1 : Int), .int r.2.2] := by
  obtain ⟨t, xs, rfl, hT, ha⟩ := h.tup_inv
  obtain ⟨a, b, c, rfl, h1, h2, h3⟩ := all3 ha
  cases h1; cases h2; cases h3
  exact ⟨t, rfl, hT⟩
theorem near_near : decide (("near" : Str) = "near") = true := by decide +kernel
theorem called_near : decide (("called" : Str) = "near") = false := by decide +kernel
theorem ne_int (i j : Int) : (!decide (V.int i = V.int j)) = !decide (i = j) := by
  congr 1
  exact decide_eq_decide.mpr ⟨fun z => V.int.inj z, fun z => by rw [z]⟩
abbrev fpt (ins : List Str) (pt : Part) (ns : List Int) : Option PT := firstP (mean true ins pt ns).rows (mean false ins pt ns).rows 0
def spFirst (K : PySem.W.Frag) : Sp := fun vs H Q _ => ∃ (v : V) (tn : Addr) (ins : List Str) (pt : Part) (ns : List Int), vs = [v, .ref tn] ∧ Dp K H v (encP ins pt) ∧ SqT K H tn (ns.map V.int) ∧ RunOk ins pt ns ∧
  ∀ u H', Fr c0 H H' → Dp K H' u (encPt (fpt ins pt ns)) → Q u H'
def t_first (K : PySem.W.Frag) (cRms : Addr) : TS :=
  (tSeq (tAsg (tFld K (tOp (rIxT K) (tCall (spGone K cRms) [] C8.E0 (tCons (tVar 0) (tCons (tVar 1) (tCons (tC (.str "near")) tNil)))) (tC (.int 0))) "rows") (gName 2))
    (tSeq (tAsg (tFld K (tOp (rIxT K) (tCall (spGone K cRms) [] C8.E0 (tCons (tVar 0) (tCons (tVar 1) (tCons (tC (.str "called")) tNil)))) (tC (.int 0))) "rows") (gName 3))
    (tSeq (tFor (BNZ.iEz K (tCons (tVar 2) (tCons (tVar 3) tNil))) (gTup K 2 (gCons (gName 4) (gCons (gName 5) gNil))) (tIfS (tTest (tOp rNe (tOp (rIxT K) (tOp (rIxT K) (tVar 5) (tC (.int 0))) (tC (.int 2))) (tOp (rIxT K) (tOp (rIxT K) (tVar 5) (tC (.int 1))) (tC (.int 2))))) (tRet (tTup (tCons (tVar 4) (tCons (tOp (rIxT K) (tOp (rIxT K) (tVar 5) (tC (.int 0))) (tC (.int 0))) (tCons (tOp (rIxT K) (tOp (rIxT K) (tVar 5) (tC (.int 0))) (tC (.int 2))) (tCons (tOp (rIxT K) (tOp (rIxT K) (tVar 5) (tC (.int 1))) (tC (.int 2))) tNil)))))) tNext))
    (tRet (tC .non)))))
theorem pure_first {K : PySem.W.Frag} {C : Addr} (T : RmsC K C) (vs : List V) (H : Hp) (Q : VK) (E : XK) (h : spFirst K vs H Q E) : t_first K C { nx := fun _ H' => Q .non H', rt := Q } (start ["program", "numbers", "near", "called", "place", "rows"] vs) H := by
  obtain ⟨v, tn, ins, pt, ns, rfl, hd, hN, O, k⟩ := h
  refine ⟨_, rfl, _, rfl, v, tn, "near", ins, pt, ns, rfl, hd, hN, O, fun t p dx ar sa H1 f1 _ _ _ hT hp TA => ?_⟩
  rw [near_near] at hT hp TA
  refine ⟨t, _, _, _, rfl, rfl, hT, rfl, p, C, dx, _, _, rfl, hp, T.cl, T.nR, flR_rows _ _ _, ?_⟩
  refine ⟨_, rfl, _, rfl, v, tn, "called", ins, pt, ns, rfl, Dp.fr f1 _ _ (tup_encP ins pt) hd, f1.sqT hN, O, fun t2 p2 dx2 ar2 sa2 H2 f2 _ _ _ hT2 hp2 TA2 => ?_⟩
  rw [called_near] at hT2 hp2 TA2
  refine ⟨t2, _, _, _, rfl, rfl, hT2, rfl, p2, C, dx2, _, _, rfl, hp2, T.cl, T.nR, flR_rows _ _ _, ?_⟩
  obtain ⟨rv1, e1, d1⟩ := (TA.fr f2).rw
  obtain ⟨rv2, e2, d2⟩ := TA2.rw
  have f12 := f1.trans f2
  refine ⟨_, rfl, _, rfl, ar, ar2, rv1, rv2, rfl, SqL.of e1, SqL.of e2, ?_⟩
  have l1 : rv1.length = (mean true ins pt ns).rows.length := by rw [d1.len, List.length_map]
  have l2 : rv2.length = (mean false ins pt ns).rows.length := by rw [d2.len, List.length_map]
  refine BNZ.for_ez (K := K) (a := ar) (b := ar2) (xs := rv1) (ys := rv2) (fun i σ H' => ∃ s4 s5, σ = [some v, some (.ref tn), some (.ref ar), some (.ref ar2), s4, s5] ∧ Fr c0 H2 H' ∧ firstP ((mean true ins pt ns).rows.take i) ((mean false ins pt ns).rows.take i) 0 = none)
    ⟨_, _, rfl, Fr.refl _, by simp [firstP]⟩ (fun i σ H' ⟨_, _, _, f', _⟩ => ⟨SqL.of (f'.at e1 (fun z => z)), SqL.of (f'.at e2 (fun z => z))⟩) ?_ ?_
  · rintro i x y T1 U σ H' hx hy ⟨s4, s5, rfl, f', hn⟩ hT1 hU hne
    obtain ⟨da, ha, Da⟩ := d1.getV hx
    obtain ⟨ra, hra, rfl⟩ := map_at ha
    obtain ⟨db, hb, Db⟩ := d2.getV hy
    obtain ⟨rb, hrb, rfl⟩ := map_at hb
    obtain ⟨ta, rfl, hta⟩ := inv_row Da
    obtain ⟨tb, rfl, htb⟩ := inv_row Db
    have g1 : Fr c0 H' (upd H' T1 (.tup [.ref ta, .ref tb])) := Fr.new hT1
    have hU1 : (upd H' T1 (.tup [.ref ta, .ref tb])) U = none := by rw [upd_ne hne]; exact hU
    have g2 : Fr c0 (upd H' T1 (.tup [.ref ta, .ref tb])) (upd (upd H' T1 (.tup [.ref ta, .ref tb])) U (.tup [.int (i : Nat), .ref T1])) := Fr.new hU1
    have g := g1.trans g2
    have hTT : SqT K (upd (upd H' T1 (.tup [.ref ta, .ref tb])) U (.tup [.int (i : Nat), .ref T1])) T1 [.ref ta, .ref tb] := SqT.of (g2.tup upd_same)
    have hta' := (f'.trans g).sqT hta
    have htb' := (f'.trans g).sqT htb
    refine ⟨U, _, rfl, SqT.of upd_same, rfl, _, _, rfl, _, _, rfl, rfl, ?_⟩
    generalize (upd (upd H' T1 (.tup [.ref ta, .ref tb])) U (.tup [.int (i : Nat), .ref T1])) = H3 at g hTT hta' htb' ⊢
    refine ⟨_, rfl, T1, _, _, _, rfl, rfl, hTT, rfl, ta, _, _, _, rfl, rfl, hta', rfl, _, rfl, T1, _, _, _, rfl, rfl, hTT, rfl, tb, _, _, _, rfl, rfl, htb', rfl, rfl, _, rfl, ?_⟩
    rw [ne_int]
    by_cases q : ra.2.2 = rb.2.2
    · refine ifF (by rw [decide_eq_true q]; rfl) ?_
      exact ⟨_, _, rfl, f'.trans g, by rw [firstP_eq hra hrb q]; exact hn⟩
    · refine ifT (by rw [decide_eq_false q]; rfl) ?_
      refine ⟨_, rfl, _, rfl, T1, _, _, _, rfl, rfl, hTT, rfl, ta, _, _, _, rfl, rfl, hta', rfl, _, rfl, T1, _, _, _, rfl, rfl, hTT, rfl, ta, _, _, _, rfl, rfl, hta', rfl, _, rfl, T1, _, _, _, rfl, rfl, hTT, rfl, tb, _, _, _, rfl, rfl, htb', rfl, one_sz (by show 4 ≤ 1000; decide), fun t3 ht3 => ?_⟩
      refine k _ _ (((f12.trans f').trans g).trans (Fr.new ht3)) ?_
      have := (firstP_ne (n := 0) hn hra hrb q).1
      rw [Nat.zero_add] at this
      rw [show fpt ins pt ns = _ from this]
      exact .tup (SqT.of upd_same) (.cons (.int _) (.cons (.str _) (.cons (.int _) (.cons (.int _) .nil))))
  · rintro σ H' ⟨s4, s5, rfl, f', hn⟩
    rw [l1, l2, firstP_min] at hn
    refine k _ _ (f12.trans f') ?_
    rw [show fpt ins pt ns = none from hn]
    exact .non
def spParting (K : PySem.W.Frag) : Sp := spFirst K
def t_parting (K : PySem.W.Frag) : TS :=
  (tSeq (tDrop (tCall (spCheckR K) [] C8.E0 (tCons (tVar 0) (tCons (tVar 1) (tCons (tC (.str "near")) tNil)))))
    (tRet (tCall (spFirst K) [] C8.E0 (tCons (tVar 0) (tCons (tVar 1) tNil)))))
theorem pure_parting {K : PySem.W.Frag} (vs : List V) (H : Hp) (Q : VK) (E : XK) (h : spParting K vs H Q E) : t_parting K { nx := fun _ H' => Q .non H', rt := Q } (start ["program", "numbers"] vs) H := by
  obtain ⟨v, tn, ins, pt, ns, rfl, hd, hN, O, k⟩ := h
  refine ⟨_, rfl, _, rfl, v, tn, "near", ins, pt, ns, rfl, hd, O.ok, hN, O.len, O.rg, .inl rfl, fun H1 f1 => ?_⟩
  exact ⟨_, rfl, _, rfl, v, tn, ins, pt, ns, rfl, Dp.fr f1 _ _ (tup_encP ins pt) hd, f1.sqT hN, O, fun u H' f' d => k u H' (f1.trans f') d⟩
end BN
namespace BN
open PySem L2 PyProof.Rows
/-! ### k06's law -/
theorem pt_small (o : Option PT) : (encPt o).depth ≤ 1 ∧ wd (encPt o) ≤ 4 := by
  cases o with
  | none => simp [encPt, PyData.depth, wd]
  | some r => obtain ⟨k, x, i, j⟩ := r; simp [encPt, PyData.depth, PyData.depthAll, wd, wds]
mutual
theorem eqv_refl : ∀ d : PyData, PyData.canLay0 d = true → PyData.eqv d d = true
  | .none, _ => by simp [PyData.eqv]
  | .bool _, _ => by simp [PyData.eqv]
  | .int _, _ => by simp [PyData.eqv]
  | .str _, _ => by simp [PyData.eqv]
  | .list xs, h => by simp only [PyData.eqv]; exact eqv_reflAll xs (by simpa [PyData.canLay0] using h)
  | .tuple xs, h => by simp only [PyData.eqv]; exact eqv_reflAll xs (by simpa [PyData.canLay0] using h)
  | .dict _, h => by simp [PyData.canLay0] at h
theorem eqv_reflAll : ∀ ds : List PyData, PyData.canLayAll0 ds = true → PyData.eqvAll ds ds = true
  | [], _ => by simp [PyData.eqvAll]
  | d :: r, h => by
    simp only [PyData.canLayAll0, Bool.and_eq_true] at h
    simp only [PyData.eqvAll, eqv_refl d h.1, eqv_reflAll r h.2]; rfl
end
theorem can_ints (l : List Int) : PyData.canLayAll0 (l.map PyData.int) = true := by
  induction l with
  | nil => rfl
  | cons a r ih => simp [PyData.canLayAll0, PyData.canLay0, ih]
theorem shaped_vs (v : Int) (l : List Int) : SeqAt.shaped (.tuple [.int v, .list (l.map PyData.int)]) = true := by
  have h1 := can_ints l
  have h2 := (ints_small l).1
  unfold SeqAt.shaped
  rw [Bool.and_eq_true, decide_eq_true_eq]
  refine ⟨by simp [PyData.canLay0, PyData.canLayAll0, h1], ?_⟩
  simp only [PyData.depth, PyData.depthAll]; omega
abbrev rMin2 : List V → Hp → VK → Prop := fun xs H Q => ∃ i j, xs = [.int i, .int j] ∧ Q (.int (if j < i then j else i)) H
def t_law6 (K : PySem.W.Frag) : TS :=
  (tSeq (tAsg (tCall (spBegun K) [] C8.E0 (tCons (tVar 0) tNil)) (gName 1))
    (tSeq (tFor (iRng1 (tCons (tC (.int 2)) tNil)) (gName 2) (tSeq (tAsg (tCall (spProgram K) [] C8.E0 (tCons (tVar 1) (tCons (tC (.int 5)) tNil))) (gName 3))
    (tFor (iRng1 (tCons (tC (.int 2)) tNil)) (gName 4) (tSeq (tAsg (tCall (spNumbers K) [] C8.E0 (tCons (tVar 1) (tCons (tVar 3) tNil))) (gName 5))
    (tSeq (tAsg (tCall (spLRun K) [] C8.E0 (tCons (tVar 3) (tCons (tVar 5) (tCons (tC (.bl true)) tNil)))) (gName 6))
    (tSeq (tAsg (tCall (spLRun K) [] C8.E0 (tCons (tVar 3) (tCons (tVar 5) (tCons (tC (.bl false)) tNil)))) (gName 7))
    (tSeq (tAsg (tC .non) (gName 8))
    (tSeq (tFor (iRng1 (tCons (tCB rMin2 (tCons (tCB (rLenSq K) (tCons (tOp (rIxT K) (tVar 6) (tC (.int 1))) tNil)) (tCons (tCB (rLenSq K) (tCons (tOp (rIxT K) (tVar 7) (tC (.int 1))) tNil)) tNil))) tNil)) (gName 9) (tIfS (tAnd (tTest (tOp rIsN (tVar 8) (tC .non))) (tTest (tOp rNe (tOp (rIxT K) (tOp (rIxL K) (tOp (rIxT K) (tVar 6) (tC (.int 1))) (tVar 9)) (tC (.int 2))) (tOp (rIxT K) (tOp (rIxL K) (tOp (rIxT K) (tVar 7) (tC (.int 1))) (tVar 9)) (tC (.int 2)))))) (tAsg (tTup (tCons (tVar 9) (tCons (tOp (rIxT K) (tOp (rIxL K) (tOp (rIxT K) (tVar 6) (tC (.int 1))) (tVar 9)) (tC (.int 0))) (tCons (tOp (rIxT K) (tOp (rIxL K) (tOp (rIxT K) (tVar 6) (tC (.int 1))) (tVar 9)) (tC (.int 2))) (tCons (tOp (rIxT K) (tOp (rIxL K) (tOp (rIxT K) (tVar 7) (tC (.int 1))) (tVar 9)) (tC (.int 2))) tNil))))) (gName 8)) tNext))
    (tSeq (tIfS (tNot (tB (tCall (spAlike K 5) [] C8.E0 (tCons (tCall (spParting K) [] C8.E0 (tCons (tVar 3) (tCons (tVar 5) tNil))) (tCons (tVar 8) tNil))))) (tRet (tC (.bl false))) tNext)
    (tIfS (tAnd (tTest (tOp rIsN (tVar 8) (tC .non))) (tTest (tOp (rNeD K) (tTup (tCons (tOp (rIxT K) (tVar 6) (tC (.int 0))) (tCons (tOp (rIxT K) (tVar 6) (tC (.int 2))) tNil))) (tTup (tCons (tOp (rIxT K) (tVar 7) (tC (.int 0))) (tCons (tOp (rIxT K) (tVar 7) (tC (.int 2))) tNil)))))) (tRet (tC (.bl false))) tNext))))))))))
    (tRet (tC (.bl true)))))
theorem pure_law6 {K : PySem.W.Frag} (vs : List V) (H : Hp) (Q : VK) (E : XK) (h : spLaw K vs H Q E) :
    t_law6 K { nx := fun _ H' => Q .non H', rt := Q } (start ["script", "box", "turn", "program", "again", "numbers", "near", "called", "due", "k"] vs) H := by
  obtain ⟨a, ns, rfl, hS, hl, k⟩ := h
  refine ⟨_, rfl, a, ns, rfl, hS, hl, fun bx il H1 f1 B1 => ?_⟩
  refine ⟨2, rfl, by decide, by decide, ?_⟩
  refine for_range (lo := 0) (n := 2) (fun i σ H' => ∃ s2 s3 s4 s5 s6 s7 s8 s9, σ = [some (.ref a), some (.ref bx), s2, s3, s4, s5, s6, s7, s8, s9] ∧ Box H' bx il) ⟨_, _, _, _, _, _, _, _, rfl, B1⟩ ?_ ?_
  · rintro i σ H2 hi ⟨s2, s3, s4, s5, s6, s7, s8, s9, rfl, B2⟩
    refine ⟨_, rfl, bx, il, 5, rfl, B2, by decide, by decide, fun ins pt vp H3 dr hd f3 B3 => ?_⟩
    obtain ⟨t, ti, vp', rfl, hT, hI, _⟩ := inv_P hd
    have O := dr.okP (by decide)
    have oil := O.il
    refine ⟨2, rfl, by decide, by decide, ?_⟩
    refine for_range (lo := 0) (n := 2) (fun i σ H' => ∃ s2 s4 s5 s6 s7 s8 s9, σ = [some (.ref a), some (.ref bx), s2, some (.ref t), s4, s5, s6, s7, s8, s9] ∧ Fr (cB bx il) H3 H' ∧ Box H' bx il) ⟨_, _, _, _, _, _, _, rfl, Fr.refl _, B3⟩ ?_ ?_
    · rintro i' σ H4 hi' ⟨s2, s4, s5, s6, s7, s8, s9, rfl, f4, B4⟩
      refine ⟨_, rfl, _, rfl, bx, il, t, ti, vp', ins, rfl, B4, f4.sqT hT, f4.sqT hI, by omega, fun tn nums H5 hnl hnr hN f5 B5 => ?_⟩
      have R := dr.run (by decide) hnl hnr
      have f35 := f4.trans f5
      have hd5 := Dp.fr f35 _ _ (tup_encP ins pt) hd
      have hN5 : SqT K H5 tn (nums.map V.int) := SqT.of hN
      refine ⟨_, rfl, _, rfl, .ref t, tn, true, ins, pt, nums, rfl, hd5, hN5, O.nd, hnl, by omega, R.w, fun t7 r1 r2 H6 f6 _ _ hT7 TA7 => ?_⟩
      refine ⟨_, rfl, _, rfl, .ref t, tn, false, ins, pt, nums, rfl, Dp.sm f6 _ _ hd5, f6.sqT hN5, O.nd, hnl, by omega, R.w, fun t8 q1 q2 H7 f7 _ _ hT8 TA8 => ?_⟩
      have TA7' := TA7.fr f7
      have hT7' := f7.sqT hT7
      have f57 := f6.trans f7
      obtain ⟨rv1, e1, d1⟩ := TA7'.rw
      obtain ⟨rv2, e2, d2⟩ := TA8.rw
      have l1 : rv1.length = (mean true ins pt nums).rows.length := by rw [d1.len, List.length_map]
      have l2 : rv2.length = (mean false ins pt nums).rows.length := by rw [d2.len, List.length_map]
      have m1 := mean_len (near := true) (ns := nums) dr (by decide)
      have m2 := mean_len (near := false) (ns := nums) dr (by decide)
      have ej : (if ((rv2.length : Nat) : Int) < ((rv1.length : Nat) : Int) then ((rv2.length : Nat) : Int) else ((rv1.length : Nat) : Int)) = ((min rv1.length rv2.length : Nat) : Int) := by split <;> omega
      refine ⟨_, rfl, t7, _, _, _, rfl, rfl, hT7', rfl, r1, _, rfl, .inl (SqL.of e1), _, rfl, t8, _, _, _, rfl, rfl, hT8, rfl, q1, _, rfl, .inl (SqL.of e2), _, _, rfl, ((min rv1.length rv2.length : Nat) : Int), by rw [ej], by omega, by omega, ?_⟩
      refine for_range (lo := 0) (n := min rv1.length rv2.length) (fun i σ H' => ∃ s2 s4 u s9, σ = [some (.ref a), some (.ref bx), s2, some (.ref t), s4, some (.ref tn), some (.ref t7), some (.ref t8), some u, s9] ∧ Fr c0 H7 H' ∧ Dp K H' u (encPt (firstP ((mean true ins pt nums).rows.take i) ((mean false ins pt nums).rows.take i) 0)))
        ⟨_, _, _, _, rfl, Fr.refl _, by simp only [List.take_zero, firstP, encPt]; exact .non⟩ ?_ ?_
      · rintro j σ H8 hj ⟨s2, s4, u, s9, rfl, f8, du⟩
        obtain ⟨x, hx⟩ := get_lt (l := rv1) (i := j) (by omega)
        obtain ⟨y, hy⟩ := get_lt (l := rv2) (i := j) (by omega)
        obtain ⟨da, ha, Da⟩ := d1.getV hx
        obtain ⟨ra, hra, rfl⟩ := map_at ha
        obtain ⟨db, hb, Db⟩ := d2.getV hy
        obtain ⟨rb, hrb, rfl⟩ := map_at hb
        obtain ⟨ta, rfl, hta⟩ := inv_row Da
        obtain ⟨tb, rfl, htb⟩ := inv_row Db
        have e0 : (0 + (j : Nat) : Int) = ((j : Nat) : Int) := Int.zero_add _
        have ix1 := atI_nat hx
        have ix2 := atI_nat hy
        rw [← e0] at ix1 ix2
        have g1 := f8.at e1 (fun z => z)
        have g2 := f8.at e2 (fun z => z)
        cases q : firstP ((mean true ins pt nums).rows.take j) ((mean false ins pt nums).rows.take j) 0 with
        | some r =>
          rw [q] at du
          obtain ⟨ua, uxs, rfl, _, _⟩ : ∃ ua uxs, u = .ref ua ∧ SqT K H8 ua uxs ∧ True := by
            obtain ⟨k', x', i'', j'⟩ := r
            obtain ⟨ua, uxs, e, hs, _⟩ := du.tup_inv
            exact ⟨ua, uxs, e, hs, trivial⟩
          refine ⟨_, rfl, rfl, _, rfl, ?_⟩
          refine ifF (decide_eq_false fun z => by cases z) (iteF ⟨_, _, _, _, rfl, f8, ?_⟩)
          rw [firstP_more q]; exact du
        | none =>
          rw [q] at du
          have eu : u = .non := by cases du; rfl
          subst eu
          refine ⟨_, rfl, rfl, _, rfl, ?_⟩
          refine ifT (decide_eq_true rfl) ?_
          refine ⟨_, rfl, t7, _, _, _, rfl, rfl, f8.sqT hT7', rfl, _, rfl, r1, _, _, _, rfl, rfl, SqL.of g1, ix1, ta, _, _, _, rfl, rfl, f8.sqT hta, rfl, _, rfl, t8, _, _, _, rfl, rfl, f8.sqT hT8, rfl, _, rfl, q1, _, _, _, rfl, rfl, SqL.of g2, ix2, tb, _, _, _, rfl, rfl, f8.sqT htb, rfl, rfl, _, rfl, ?_⟩
          rw [ne_int]
          by_cases hq : ra.2.2 = rb.2.2
          · refine ifF (by rw [decide_eq_true hq]; rfl) ⟨_, _, _, _, rfl, f8, ?_⟩
            rw [firstP_eq hra hrb hq, q]; exact .non
          · refine ifT (by rw [decide_eq_false hq]; rfl) ?_
            refine ⟨_, rfl, _, rfl, t7, _, _, _, rfl, rfl, f8.sqT hT7', rfl, _, rfl, r1, _, _, _, rfl, rfl, SqL.of g1, ix1, ta, _, _, _, rfl, rfl, f8.sqT hta, rfl, _, rfl, t7, _, _, _, rfl, rfl, f8.sqT hT7', rfl, _, rfl, r1, _, _, _, rfl, rfl, SqL.of g1, ix1, ta, _, _, _, rfl, rfl, f8.sqT hta, rfl,
              _, rfl, t8, _, _, _, rfl, rfl, f8.sqT hT8, rfl, _, rfl, q1, _, _, _, rfl, rfl, SqL.of g2, ix2, tb, _, _, _, rfl, rfl, f8.sqT htb, rfl, one_sz (by show 4 ≤ 1000; decide), fun t9 ht9 => ?_⟩
            refine ⟨_, _, _, _, rfl, f8.trans (Fr.new ht9), ?_⟩
            have := (firstP_ne (n := 0) q hra hrb hq).2
            rw [Nat.zero_add] at this
            rw [this]
            refine .tup (SqT.of upd_same) (.cons ?_ (.cons (.str _) (.cons (.int _) (.cons (.int _) .nil))))
            rw [e0]; exact .int _
      · rintro σ H8 ⟨s2, s4, u, s9, rfl, f8, du⟩
        rw [l1, l2, firstP_min] at du
        have f58 := f57.trans f8
        refine ⟨_, rfl, _, rfl, .ref t, tn, ins, pt, nums, rfl, Dp.sm f58 _ _ hd5, f58.sqT hN5, R, fun u' H9 f9 d9 => ?_⟩
        have sm := pt_small (fpt ins pt nums)
        have du9 := Dp.fr f9 _ _ (tup_pt _) du
        refine ⟨_, rfl, u', u, encPt (fpt ins pt nums), rfl, d9, du9, by omega, by omega, true, rfl, iteF ?_⟩
        have f79 := f8.trans f9
        have fin : ∀ {H' : Hp}, Fr c0 H9 H' → Fr (cB bx il) H3 H' ∧ Box H' bx il := fun {H'} f => ⟨f35.trans (Fr.of0 ((f57.trans f79).trans f)), B5.fr0 ((f57.trans f79).trans f)⟩
        cases q : fpt ins pt nums with
        | some r =>
          have du9' := du9
          rw [show firstP (mean true ins pt nums).rows (mean false ins pt nums).rows 0 = some r from q] at du9'
          obtain ⟨ua, rfl⟩ : ∃ ua, u = .ref ua := by
            obtain ⟨k', x', i'', j'⟩ := r
            obtain ⟨ua, uxs, e, hs, _⟩ := du9'.tup_inv
            exact ⟨ua, e⟩
          refine ⟨_, rfl, rfl, _, rfl, ?_⟩
          exact ifF (decide_eq_false fun z => by cases z) (iteF ⟨_, _, _, _, _, _, _, rfl, fin (Fr.refl _)⟩)
        | none =>
          have du9' := du9
          rw [show firstP (mean true ins pt nums).rows (mean false ins pt nums).rows 0 = none from q] at du9'
          have eu : u = .non := by cases du9'; rfl
          subst eu
          obtain ⟨sv, ss, _⟩ := same_of_none (p := pt) (P := [ins.zip nums]) (n := 0) q
          refine ⟨_, rfl, rfl, _, rfl, ?_⟩
          refine ifT (decide_eq_true rfl) ?_
          have hT79 := f79.sqT hT7'
          have hT89 := f79.sqT hT8
          refine ⟨_, rfl, t7, _, _, _, rfl, rfl, hT79, rfl, _, rfl, t7, _, _, _, rfl, rfl, hT79, rfl, one_sz (by show 2 ≤ 1000; decide), fun w1 hw1 => ?_⟩
          have g1 : Fr c0 H9 (upd H9 w1 (.tup [.int (mean true ins pt nums).v, .ref r2])) := Fr.new hw1
          refine ⟨_, rfl, t8, _, _, _, rfl, rfl, g1.sqT hT89, rfl, _, rfl, t8, _, _, _, rfl, rfl, g1.sqT hT89, rfl, one_sz (by show 2 ≤ 1000; decide), fun w2 hw2 => ?_⟩
          have g2 : Fr c0 (upd H9 w1 (.tup [.int (mean true ins pt nums).v, .ref r2])) (upd (upd H9 w1 (.tup [.int (mean true ins pt nums).v, .ref r2])) w2 (.tup [.int (mean false ins pt nums).v, .ref q2])) := Fr.new hw2
          have g := g1.trans g2
          refine ⟨.tuple [.int (mean true ins pt nums).v, .list ((mean true ins pt nums).said.map .int)], .tuple [.int (mean false ins pt nums).v, .list ((mean false ins pt nums).said.map .int)],
            .tup (SqT.of (g2.tup upd_same)) (.cons (.int _) (.cons (.lst (SqL.of ((TA7'.fr (f79.trans g)).sd)) (DpAll.ints _)) .nil)), .tup (SqT.of upd_same) (.cons (.int _) (.cons (.lst (SqL.of ((TA8.fr (f79.trans g)).sd)) (DpAll.ints _)) .nil)), shaped_vs _ _, shaped_vs _ _, _, rfl, ?_⟩
          have ev : PyData.eqv (.tuple [.int (mean true ins pt nums).v, .list ((mean true ins pt nums).said.map .int)]) (.tuple [.int (mean false ins pt nums).v, .list ((mean false ins pt nums).said.map .int)]) = true := by
            rw [show (mean true ins pt nums).v = (mean false ins pt nums).v from sv, show (mean true ins pt nums).said = (mean false ins pt nums).said from ss]
            have h1 := can_ints (mean false ins pt nums).said
            exact eqv_refl _ (by simp [PyData.canLay0, PyData.canLayAll0, h1])
          rw [ev]
          exact iteF ⟨_, _, _, _, _, _, _, rfl, fin g⟩
    · rintro σ H4 ⟨s2, s4, s5, s6, s7, s8, s9, rfl, f4, B4⟩
      exact ⟨_, _, _, _, _, _, _, _, rfl, B4⟩
  · rintro σ H2 ⟨s2, s3, s4, s5, s6, s7, s8, s9, rfl, B2⟩
    exact k H2
end BN
namespace BN
open PySem L2
/-! ### names told apart: what is made -/
def nmS (k : Nat) : Str := ⟨#[118, 97 + k / 676, 97 + k / 26 % 26, 97 + k % 26]⟩
theorem nm_inj {i j : Nat} (h : nmS i = nmS j) : i = j := by
  unfold nmS at h
  injection h with h
  have h2 : [118, 97 + i / 676, 97 + i / 26 % 26, 97 + i % 26] = [118, 97 + j / 676, 97 + j / 26 % 26, 97 + j % 26] := congrArg Array.toList h
  simp only [List.cons.injEq, and_true, true_and] at h2
  omega
theorem nm_word {i : Nat} (h : i < 17576) : wordB (nmS i) = true := by
  have a1 : i / 676 < 26 := by omega
  simp only [wordB, nmS, Str.length, Bool.and_eq_true, decide_eq_true_eq]
  refine ⟨⟨decide_eq_true (by show 1 ≤ 4; decide), decide_eq_true (by show 4 ≤ 4; decide)⟩, ?_⟩
  simp only [Array.all_eq_true, decide_eq_true_eq, Bool.and_eq_true]
  intro q hq
  have hq : q < 4 := hq
  match q, hq with
  | 0, _ => exact ⟨by show 97 ≤ 118; decide, by show 118 ≤ 122; decide⟩
  | 1, _ => show 97 ≤ 97 + i / 676 ∧ 97 + i / 676 ≤ 122; omega
  | 2, _ => show 97 ≤ 97 + i / 26 % 26 ∧ 97 + i / 26 % 26 ≤ 122; omega
  | 3, _ => show 97 ≤ 97 + i % 26 ∧ 97 + i % 26 ≤ 122; omega
def nms (k : Nat) : Nat → List Str
  | 0 => []
  | n + 1 => nmS k :: nms (k + 1) n
theorem nms_len : ∀ (n k : Nat), (nms k n).length = n
  | 0, _ => rfl
  | n + 1, k => by rw [nms, List.length_cons, nms_len]
theorem nms_mem : ∀ {n k : Nat} {x : Str}, x ∈ nms k n → ∃ i, k ≤ i ∧ i < k + n ∧ x = nmS i
  | 0, _, x, h => by simp [nms] at h
  | n + 1, k, x, h => by
    rcases List.mem_cons.mp h with rfl | h
    · exact ⟨k, by omega, by omega, rfl⟩
    · obtain ⟨i, h1, h2, e⟩ := nms_mem h
      exact ⟨i, by omega, by omega, e⟩
theorem nms_nodup : ∀ (n k : Nat), (nms k n).Nodup
  | 0, _ => by simp [nms]
  | n + 1, k => by
    rw [nms, List.nodup_cons]
    refine ⟨fun h => ?_, nms_nodup n (k + 1)⟩
    obtain ⟨i, h1, _, e⟩ := nms_mem h
    have := nm_inj e
    omega
theorem nms_add : ∀ (m n k : Nat), nms k (m + n) = nms k m ++ nms (k + m) n
  | 0, n, k => by simp [nms]
  | m + 1, n, k => by
    rw [show m + 1 + n = (m + n) + 1 by omega, nms, nms, nms_add m n (k + 1), List.cons_append, show k + 1 + m = k + (m + 1) by omega]
theorem nms_get : ∀ {n k j : Nat}, j < n → (nms k n)[j]? = some (nmS (k + j))
  | n + 1, k, 0, _ => rfl
  | n + 1, k, j + 1, h => by
    rw [nms, List.getElem?_cons_succ, nms_get (by omega), show k + 1 + j = k + (j + 1) by omega]
abbrev NuE := Str → Option Str
def bindN (ν : NuE) : List Str → Nat → NuE
  | [], _ => ν
  | x :: r, k => bindN (putN ν x (nmS k)) r (k + 1)
mutual
def Part.bn : Part → Nat
  | .num _ => 0
  | .name _ => 0
  | .add a b => a.bn + b.bn
  | .less a b => a.bn + b.bn
  | .ite c a b => c.bn + (a.bn + b.bn)
  | .say a => a.bn
  | .lt _ a b => a.bn + (1 + b.bn)
  | .fn _ ps b r => ps.length + (b.bn + r.bn)
  | .call _ as => as.bn
def Parts.bn : Parts → Nat
  | .nil => 0
  | .cons p r => p.bn + r.bn
end
mutual
def apM : Part → NuE → Nat → Part
  | .num n, _, _ => .num n
  | .name x, ν, _ => .name ((ν x).getD x)
  | .add a b, ν, k => .add (apM a ν k) (apM b ν (k + a.bn))
  | .less a b, ν, k => .less (apM a ν k) (apM b ν (k + a.bn))
  | .ite c a b, ν, k => .ite (apM c ν k) (apM a ν (k + c.bn)) (apM b ν (k + c.bn + a.bn))
  | .say a, ν, k => .say (apM a ν k)
  | .lt x a b, ν, k => .lt (nmS (k + a.bn)) (apM a ν k) (apM b (putN ν x (nmS (k + a.bn))) (k + a.bn + 1))
  | .fn f ps b r, ν, k => .fn f (nms k ps.length) (apM b (bindN ν ps k) (k + ps.length)) (apM r ν (k + ps.length + b.bn))
  | .call f as, ν, k => .call f (apMs as ν k)
def apMs : Parts → NuE → Nat → Parts
  | .nil, _, _ => .nil
  | .cons p r, ν, k => .cons (apM p ν k) (apMs r ν (k + p.bn))
end
/-! ### what stays -/
mutual
theorem apM_size : ∀ (p : Part) (ν : NuE) (k : Nat), (apM p ν k).size = p.size
  | .num n, ν, k => rfl
  | .name x, ν, k => rfl
  | .add a b, ν, k => by simp only [apM, Part.size, apM_size a, apM_size b]
  | .less a b, ν, k => by simp only [apM, Part.size, apM_size a, apM_size b]
  | .ite c a b, ν, k => by simp only [apM, Part.size, apM_size c, apM_size a, apM_size b]
  | .say a, ν, k => by simp only [apM, Part.size, apM_size a]
  | .lt x a b, ν, k => by simp only [apM, Part.size, apM_size a, apM_size b]
  | .fn f ps b r, ν, k => by simp only [apM, Part.size, apM_size b, apM_size r]
  | .call f as, ν, k => by simp only [apM, Part.size, apMs_size as]
theorem apMs_size : ∀ (as : Parts) (ν : NuE) (k : Nat), (apMs as ν k).size = as.size
  | .nil, ν, k => rfl
  | .cons p r, ν, k => by simp only [apMs, Parts.size, apM_size p, apMs_size r]
end
mutual
theorem apM_dep : ∀ (p : Part) (ν : NuE) (k : Nat), (apM p ν k).dep = p.dep
  | .num n, ν, k => rfl
  | .name x, ν, k => rfl
  | .add a b, ν, k => by simp only [apM, Part.dep, apM_dep a, apM_dep b]
  | .less a b, ν, k => by simp only [apM, Part.dep, apM_dep a, apM_dep b]
  | .ite c a b, ν, k => by simp only [apM, Part.dep, apM_dep c, apM_dep a, apM_dep b]
  | .say a, ν, k => by simp only [apM, Part.dep, apM_dep a]
  | .lt x a b, ν, k => by simp only [apM, Part.dep, apM_dep a, apM_dep b]
  | .fn f ps b r, ν, k => by simp only [apM, Part.dep, apM_dep b, apM_dep r]
  | .call f as, ν, k => by simp only [apM, Part.dep, apMs_dep as]
theorem apMs_dep : ∀ (as : Parts) (ν : NuE) (k : Nat), (apMs as ν k).dep = as.dep
  | .nil, ν, k => rfl
  | .cons p r, ν, k => by simp only [apMs, Parts.dep, apM_dep p, apMs_dep r]
end
theorem apMs_len : ∀ (as : Parts) (ν : NuE) (k : Nat), (apMs as ν k).len = as.len
  | .nil, ν, k => rfl
  | .cons p r, ν, k => by simp only [apMs, Parts.len, apMs_len r]
mutual
theorem apM_wid : ∀ (p : Part) (ν : NuE) (k : Nat), (apM p ν k).wid = p.wid
  | .num n, ν, k => rfl
  | .name x, ν, k => rfl
  | .add a b, ν, k => by simp only [apM, Part.wid, apM_wid a, apM_wid b]
  | .less a b, ν, k => by simp only [apM, Part.wid, apM_wid a, apM_wid b]
  | .ite c a b, ν, k => by simp only [apM, Part.wid, apM_wid c, apM_wid a, apM_wid b]
  | .say a, ν, k => by simp only [apM, Part.wid, apM_wid a]
  | .lt x a b, ν, k => by simp only [apM, Part.wid, apM_wid a, apM_wid b]
  | .fn f ps b r, ν, k => by simp only [apM, Part.wid, apM_wid b, apM_wid r, nms_len]
  | .call f as, ν, k => by simp only [apM, Part.wid, apMs_wid as, apMs_len]
theorem apMs_wid : ∀ (as : Parts) (ν : NuE) (k : Nat), (apMs as ν k).wid = as.wid
  | .nil, ν, k => rfl
  | .cons p r, ν, k => by simp only [apMs, Parts.wid, apM_wid p, apMs_wid r]
end
mutual
theorem apM_dpt : ∀ (p : Part) (ν : NuE) (k : Nat) (d : Str → Nat), (apM p ν k).dpt d = p.dpt d
  | .num n, ν, k, d => rfl
  | .name x, ν, k, d => rfl
  | .add a b, ν, k, d => by simp only [apM, Part.dpt, apM_dpt a, apM_dpt b]
  | .less a b, ν, k, d => by simp only [apM, Part.dpt, apM_dpt a, apM_dpt b]
  | .ite c a b, ν, k, d => by simp only [apM, Part.dpt, apM_dpt c, apM_dpt a, apM_dpt b]
  | .say a, ν, k, d => by simp only [apM, Part.dpt, apM_dpt a]
  | .lt x a b, ν, k, d => by simp only [apM, Part.dpt, apM_dpt a, apM_dpt b]
  | .fn f ps b r, ν, k, d => by simp only [apM, Part.dpt, apM_dpt b, apM_dpt r]
  | .call f as, ν, k, d => by simp only [apM, Part.dpt, apMs_dpt as]
theorem apMs_dpt : ∀ (as : Parts) (ν : NuE) (k : Nat) (d : Str → Nat), (apMs as ν k).dpt d = as.dpt d
  | .nil, ν, k, d => rfl
  | .cons p r, ν, k, d => by simp only [apMs, Parts.dpt, apM_dpt p, apMs_dpt r]
end
mutual
theorem apM_cst : ∀ (p : Part) (ν : NuE) (k : Nat) (d : Str → Nat), (apM p ν k).cst d = p.cst d
  | .num n, ν, k, d => rfl
  | .name x, ν, k, d => rfl
  | .add a b, ν, k, d => by simp only [apM, Part.cst, apM_cst a, apM_cst b]
  | .less a b, ν, k, d => by simp only [apM, Part.cst, apM_cst a, apM_cst b]
  | .ite c a b, ν, k, d => by simp only [apM, Part.cst, apM_cst c, apM_cst a, apM_cst b]
  | .say a, ν, k, d => by simp only [apM, Part.cst, apM_cst a]
  | .lt x a b, ν, k, d => by simp only [apM, Part.cst, apM_cst a, apM_cst b]
  | .fn f ps b r, ν, k, d => by simp only [apM, Part.cst, apM_cst b, apM_cst r]
  | .call f as, ν, k, d => by simp only [apM, Part.cst, apMs_cst as]
theorem apMs_cst : ∀ (as : Parts) (ν : NuE) (k : Nat) (d : Str → Nat), (apMs as ν k).cst d = as.cst d
  | .nil, ν, k, d => rfl
  | .cons p r, ν, k, d => by simp only [apMs, Parts.cst, apM_cst p, apMs_cst r]
end
mutual
theorem bn_mono : ∀ (p : Part) (w : Nat), p.wid ≤ w → p.bn ≤ p.size * (1 + w)
  | .num n, w, _ => by simp [Part.bn]
  | .name x, w, _ => by simp [Part.bn]
  | .add a b, w, h => by
    simp only [Part.wid] at h
    have h1 := bn_mono a w (by omega); have h2 := bn_mono b w (by omega)
    simp only [Part.bn, Part.size]; rw [Nat.add_mul, Nat.add_mul]; omega
  | .less a b, w, h => by
    simp only [Part.wid] at h
    have h1 := bn_mono a w (by omega); have h2 := bn_mono b w (by omega)
    simp only [Part.bn, Part.size]; rw [Nat.add_mul, Nat.add_mul]; omega
  | .ite c a b, w, h => by
    simp only [Part.wid] at h
    have h0 := bn_mono c w (by omega); have h1 := bn_mono a w (by omega); have h2 := bn_mono b w (by omega)
    simp only [Part.bn, Part.size]; rw [Nat.add_mul, Nat.add_mul, Nat.add_mul]; omega
  | .say a, w, h => by
    simp only [Part.wid] at h
    have h1 := bn_mono a w h
    simp only [Part.bn, Part.size]; rw [Nat.add_mul]; omega
  | .lt x a b, w, h => by
    simp only [Part.wid] at h
    have h1 := bn_mono a w (by omega); have h2 := bn_mono b w (by omega)
    simp only [Part.bn, Part.size]; rw [Nat.add_mul, Nat.add_mul]; omega
  | .fn f ps b r, w, h => by
    simp only [Part.wid] at h
    have h1 := bn_mono b w (by omega); have h2 := bn_mono r w (by omega)
    simp only [Part.bn, Part.size]; rw [Nat.add_mul, Nat.add_mul]; omega
  | .call f as, w, h => by
    simp only [Part.wid] at h
    have h1 := bns_mono as w (by omega)
    simp only [Part.bn, Part.size]; rw [Nat.add_mul]; omega
theorem bns_mono : ∀ (as : Parts) (w : Nat), as.wid ≤ w → as.bn ≤ as.size * (1 + w)
  | .nil, w, h => by simp [Parts.bn]
  | .cons p r, w, h => by
    simp only [Parts.wid] at h
    have h1 := bn_mono p w (by omega)
    have h2 := bns_mono r w (by omega)
    simp only [Parts.bn, Parts.size]; rw [Nat.add_mul]; omega
end
end BN
namespace BN
open PySem L2
/-! ### names told apart mean the same -/
structure Sm (o o' : Out) : Prop where
  v : o'.v = o.v
  sd : o'.said = o.said
  nu : nums o'.rows = nums o.rows
theorem Sm.bnd {a a' : Out} {f f' : Int → Out} (h : Sm a a') (k : ∀ i, Sm (f i) (f' i)) : Sm (a.bnd f) (a'.bnd f') := by
  obtain ⟨h1, h2, h3⟩ := h
  have k' := k a.v
  refine ⟨?_, ?_, ?_⟩
  · show (f' a'.v).v = (f a.v).v; rw [h1]; exact k'.v
  · show a'.said ++ (f' a'.v).said = a.said ++ (f a.v).said; rw [h1, h2, k'.sd]
  · show nums (a'.rows ++ (f' a'.v).rows) = nums (a.rows ++ (f a.v).rows); rw [nums_app, nums_app, h1, h3, k'.nu]
theorem Sm.bndV {a a' : Out} {f f' : Int → Out} (h : Sm a a') (k : Sm (f a.v) (f' a.v)) : Sm (a.bnd f) (a'.bnd f') := by
  obtain ⟨h1, h2, h3⟩ := h
  refine ⟨?_, ?_, ?_⟩
  · show (f' a'.v).v = (f a.v).v; rw [h1]; exact k.v
  · show a'.said ++ (f' a'.v).said = a.said ++ (f a.v).said; rw [h1, h2, k.sd]
  · show nums (a'.rows ++ (f' a'.v).rows) = nums (a.rows ++ (f a.v).rows); rw [nums_app, nums_app, h1, h3, k.nu]
theorem Sm.rfl' (o : Out) : Sm o o := ⟨rfl, rfl, rfl⟩
/-- rooms of names of numbers from b on alone -/
def AvR (b : Nat) (Q : List Room) : Prop := ∀ r ∈ Q, ∀ e ∈ r, ∃ i, b ≤ i ∧ e.1 = nmS i
theorem lookup_none {α : Type} : ∀ {r : List (Str × α)} {y : Str}, (∀ e ∈ r, e.1 ≠ y) → r.lookup y = none
  | [], y, _ => rfl
  | (x, v) :: r, y, h => by
    have q : (y == x) = false := by simpa using fun z : y = x => h (x, v) (List.mem_cons_self ..) z.symm
    simp only [List.lookup, q]
    exact lookup_none fun e he => h e (List.mem_cons_of_mem _ he)
theorem AvR.none {b i : Nat} {Q : List Room} (h : AvR b Q) (hi : i < b) : ∀ r ∈ Q, r.lookup (nmS i) = none := fun r hr => lookup_none fun e he z => by
  obtain ⟨j, hj, ej⟩ := h r hr e he
  have := nm_inj (ej.symm.trans z)
  omega
theorem AvR.mono {b c : Nat} {Q : List Room} (h : AvR c Q) (hb : b ≤ c) : AvR b Q := fun r hr e he => by
  obtain ⟨j, hj, ej⟩ := h r hr e he
  exact ⟨j, by omega, ej⟩
theorem AvR.app {b : Nat} {Q R : List Room} (h : AvR b Q) (k : AvR b R) : AvR b (Q ++ R) := fun r hr => by
  rcases List.mem_append.mp hr with z | z
  · exact h r z
  · exact k r z
theorem rdR_pass : ∀ {A B : List Room} {y : Str}, (∀ r ∈ A, r.lookup y = none) → (rdR (A ++ B) y).2 = (rdR B y).2
  | [], B, y, _ => rfl
  | a :: A, B, y, h => by
    rw [List.cons_append, rdR, h a (List.mem_cons_self ..)]
    exact rdR_pass fun r hr => h r (List.mem_cons_of_mem _ hr)
theorem rd_pass {P Q : List Room} {y : Str} (h : ∀ r ∈ Q, r.lookup y = none) : (rd (P ++ Q) y).2 = (rd P y).2 := by
  unfold rd
  rw [List.reverse_append]
  exact rdR_pass fun r hr => h r (List.mem_reverse.mp hr)
theorem rd_top {P : List Room} {r : Room} {y : Str} {n : Int} (h : r.lookup y = some n) : (rd (P ++ [r]) y).2 = n := by
  unfold rd
  rw [List.reverse_append]
  show (rdR (r :: P.reverse) y).2 = n
  rw [rdR, h]
structure SmN (ns : List Str) (ν : NuE) (P P' : List Room) (k : Nat) : Prop where
  at_ : ∀ x ∈ ns, ∃ i, i < k ∧ ν x = some (nmS i) ∧ (rd P' (nmS i)).2 = (rd P x).2
def SmF (fs : FE0) (e e' : SEnv) (P' : List Room) (k : Nat) : Prop := ∀ f n, fs f = some n → ∃ g g' b, e f = some g ∧ e' f = some g' ∧ b ≤ k ∧ ∀ Q, AvR b Q → ∀ vs dyn, vs.length = n → Sm (g vs dyn) (g' vs (P' ++ Q))
theorem SmN.mono {ns : List Str} {ν : NuE} {P P' : List Room} {k k' : Nat} (h : SmN ns ν P P' k) (hk : k ≤ k') : SmN ns ν P P' k' := ⟨fun x hx => by
  obtain ⟨i, h1, h2⟩ := h.at_ x hx
  exact ⟨i, by omega, h2⟩⟩
theorem SmF.mono {fs : FE0} {e e' : SEnv} {P' : List Room} {k k' : Nat} (h : SmF fs e e' P' k) (hk : k ≤ k') : SmF fs e e' P' k' := fun f n hf => by
  obtain ⟨g, g', b, h1, h2, h3, h4⟩ := h f n hf
  exact ⟨g, g', b, h1, h2, by omega, h4⟩
theorem SmF.more {fs : FE0} {e e' : SEnv} {P' : List Room} {k : Nat} (h : SmF fs e e' P' k) {Q : List Room} (hQ : AvR k Q) : SmF fs e e' (P' ++ Q) k := fun f n hf => by
  obtain ⟨g, g', b, h1, h2, h3, h4⟩ := h f n hf
  exact ⟨g, g', b, h1, h2, h3, fun R hR vs dyn hl => by rw [List.append_assoc]; exact h4 _ ((hQ.mono h3).app hR) vs dyn hl⟩
theorem bindN_out : ∀ (ps : List Str) (ν : NuE) (k : Nat) {x : Str}, x ∉ ps → bindN ν ps k x = ν x
  | [], ν, k, x, _ => rfl
  | p :: r, ν, k, x, h => by
    rw [bindN, bindN_out r _ _ fun z => h (List.mem_cons_of_mem _ z)]
    exact if_neg fun z => h (by rw [z]; exact List.mem_cons_self ..)
theorem bindN_in : ∀ {ps : List Str} {ν : NuE} {k : Nat} {x : Str} {vs : List Int}, ps.Nodup → x ∈ ps → ps.length = vs.length → ∃ i v, k ≤ i ∧ i < k + ps.length ∧ bindN ν ps k x = some (nmS i) ∧ (ps.zip vs).lookup x = some v ∧ ((nms k ps.length).zip vs).lookup (nmS i) = some v
  | p :: r, ν, k, x, [], _, _, hl => by simp at hl
  | p :: r, ν, k, x, v :: vs, nd, hx, hl => by
    have nd' := List.nodup_cons.mp nd
    by_cases q : x = p
    · subst q
      refine ⟨k, v, Nat.le_refl _, by simp, ?_, by simp [List.lookup], ?_⟩
      · rw [bindN, bindN_out r _ _ nd'.1]; exact if_pos rfl
      · simp [nms, List.lookup]
    · have hx' : x ∈ r := by
        rcases List.mem_cons.mp hx with z | z
        · exact absurd z q
        · exact z
      obtain ⟨i, u, h1, h2, h3, h4, h5⟩ := bindN_in (ν := putN ν p (nmS k)) (k := k + 1) (vs := vs) nd'.2 hx' (by simpa using hl)
      refine ⟨i, u, by omega, by simp only [List.length_cons]; omega, h3, ?_, ?_⟩
      · have e : (x == p) = false := by simpa using q
        simp only [List.zip_cons_cons, List.lookup, e]; exact h4
      · have e : (nmS i == nmS k) = false := by
          have : nmS i ≠ nmS k := fun z => by have := nm_inj z; omega
          simpa using this
        simp only [List.length_cons, nms, List.zip_cons_cons, List.lookup, e]; exact h5
theorem lookup_zip_none : ∀ {ps : List Str} {vs : List Int} {x : Str}, x ∉ ps → (ps.zip vs).lookup x = none := fun {ps vs x} h => lookup_none fun e he z => h (by
  have := (List.of_mem_zip he).1
  rw [← z]; exact this)
theorem AvR.zip {k n : Nat} {vs : List Int} : AvR k [(nms k n).zip vs] := fun r hr e he => by
  rw [List.mem_singleton.mp hr] at he
  obtain ⟨i, h1, _, h3⟩ := nms_mem (List.of_mem_zip he).1
  exact ⟨i, h1, h3⟩
theorem Sm.ite {c : Prop} [Decidable c] {a a' b b' : Out} (h1 : Sm a a') (h2 : Sm b b') : Sm (if c then a else b) (if c then a' else b') := by
  split
  · exact h1
  · exact h2
structure Sms (l l' : List Out) : Prop where
  v : l'.map (·.v) = l.map (·.v)
  sd : l'.flatMap (·.said) = l.flatMap (·.said)
  nu : nums (l'.flatMap (·.rows)) = nums (l.flatMap (·.rows))
theorem dens_lenL (m : Bool) (e : SEnv) (P : List Room) (as : Parts) : (dens m as e P).length = as.len := by rw [dens_list, List.length_map, Parts.list_len]
mutual
theorem sim (m : Bool) : ∀ (p : Part) (ns : List Str) (fs : FE0) (e e' : SEnv) (ν : NuE) (P P' : List Room) (k : Nat), p.ok ns fs → SmN ns ν P P' k → SmF fs e e' P' k → Sm (den true p e P) (den m (apM p ν k) e' P')
  | .num n, ns, fs, e, e', ν, P, P', k, ok, N, F => by simp only [apM, den]; exact Sm.rfl' _
  | .name x, ns, fs, e, e', ν, P, P', k, ok, N, F => by
    simp only [Part.ok] at ok
    obtain ⟨i, h1, h2, h3⟩ := N.at_ x ok
    simp only [apM, den, h2, Option.getD_some]
    exact ⟨h3, rfl, by simp [nums, h3]⟩
  | .add a b, ns, fs, e, e', ν, P, P', k, ok, N, F => by
    simp only [Part.ok] at ok
    simp only [apM, den]
    exact (sim m a ns fs e e' ν P P' k ok.1 N F).bnd fun i => (sim m b ns fs e e' ν P P' _ ok.2 (N.mono (by omega)) (F.mono (by omega))).bnd fun j => Sm.rfl' _
  | .less a b, ns, fs, e, e', ν, P, P', k, ok, N, F => by
    simp only [Part.ok] at ok
    simp only [apM, den]
    exact (sim m a ns fs e e' ν P P' k ok.1 N F).bnd fun i => (sim m b ns fs e e' ν P P' _ ok.2 (N.mono (by omega)) (F.mono (by omega))).bnd fun j => Sm.rfl' _
  | .ite c a b, ns, fs, e, e', ν, P, P', k, ok, N, F => by
    simp only [Part.ok] at ok
    simp only [apM, den]
    exact (sim m c ns fs e e' ν P P' k ok.1 N F).bnd fun i => Sm.ite (sim m b ns fs e e' ν P P' _ ok.2.2 (N.mono (by omega)) (F.mono (by omega))) (sim m a ns fs e e' ν P P' _ ok.2.1 (N.mono (by omega)) (F.mono (by omega)))
  | .say a, ns, fs, e, e', ν, P, P', k, ok, N, F => by
    simp only [Part.ok] at ok
    simp only [apM, den]
    exact (sim m a ns fs e e' ν P P' k ok N F).bnd fun i => Sm.rfl' _
  | .lt x a b, ns, fs, e, e', ν, P, P', k, ok, N, F => by
    simp only [Part.ok] at ok
    simp only [apM, den]
    refine (sim m a ns fs e e' ν P P' k ok.2.1 N F).bnd fun i => ?_
    have av : AvR (k + a.bn) [[(nmS (k + a.bn), i)]] := fun r hr e he => by
      rw [List.mem_singleton.mp hr] at he
      rw [List.mem_singleton.mp he]
      exact ⟨_, Nat.le_refl _, rfl⟩
    refine sim m b (ns ++ [x]) fs e e' _ _ _ _ ok.2.2 ⟨fun y hy => ?_⟩ (((F.mono (by omega : k ≤ k + a.bn)).more av).mono (by omega))
    by_cases q : y = x
    · subst q
      refine ⟨k + a.bn, by omega, if_pos rfl, ?_⟩
      rw [rd_top (n := i) (by simp [List.lookup]), rd_top (n := i) (by simp [List.lookup])]
    · have hy' : y ∈ ns := by
        rcases List.mem_append.mp hy with z | z
        · exact z
        · exact absurd (List.mem_singleton.mp z) q
      obtain ⟨j, h1, h2, h3⟩ := N.at_ y hy'
      refine ⟨j, by omega, (if_neg q).trans h2, ?_⟩
      rw [rd_pass (av.none (by omega)), h3]
      refine (rd_pass fun r hr => ?_).symm
      rw [List.mem_singleton.mp hr]
      exact lookup_none fun e he z => q (by rw [List.mem_singleton.mp he] at z; exact z.symm)
  | .fn f ps b r, ns, fs, e, e', ν, P, P', k, ok, N, F => by
    simp only [Part.ok] at ok
    obtain ⟨_, _, nd, _, okb, okr⟩ := ok
    simp only [apM, den]
    refine sim m r ns _ _ _ ν P P' _ okr (N.mono (by omega)) fun g n hg => ?_
    unfold putN at hg ⊢
    by_cases q : g = f
    · subst q
      rw [if_pos rfl] at hg
      have en : ps.length = n := Option.some.inj hg
      refine ⟨_, _, k, if_pos rfl, if_pos rfl, by omega, fun Q hQ vs dyn hl => ?_⟩
      have hl' : ps.length = vs.length := en.trans hl.symm
      show Sm (den true b e (P ++ [ps.zip vs])) _
      have eP : (if m = true then P' else P' ++ Q) ++ [(nms k ps.length).zip vs] = P' ++ ((if m = true then [] else Q) ++ [(nms k ps.length).zip vs]) := by
        cases m <;> simp
      rw [eP]
      have avQ : AvR k (if m = true then [] else Q) := by
        cases m
        · exact hQ
        · intro r hr; cases hr
      have av := avQ.app (AvR.zip (k := k) (n := ps.length) (vs := vs))
      refine sim m b (ns ++ ps) fs e e' _ _ _ _ okb ⟨fun y hy => ?_⟩ ((F.more av).mono (by omega))
      by_cases q : y ∈ ps
      · obtain ⟨i, v, h1, h2, h3, h4, h5⟩ := bindN_in (ν := ν) (k := k) nd q hl'
        refine ⟨i, h2, h3, ?_⟩
        rw [rd_top h4, ← List.append_assoc, rd_top h5]
      · have hy' : y ∈ ns := by
          rcases List.mem_append.mp hy with z | z
          · exact z
          · exact absurd z q
        obtain ⟨j, h1, h2, h3⟩ := N.at_ y hy'
        refine ⟨j, by omega, (bindN_out ps ν k q).trans h2, ?_⟩
        rw [rd_pass (av.none h1), h3]
        refine (rd_pass fun r hr => ?_).symm
        rw [List.mem_singleton.mp hr]
        exact lookup_zip_none q
    · rw [if_neg q] at hg
      obtain ⟨g1, g2, c, h1, h2, h3, h4⟩ := F g n hg
      exact ⟨g1, g2, c, (if_neg q).trans h1, (if_neg q).trans h2, by omega, h4⟩
  | .call f as, ns, fs, e, e', ν, P, P', k, ok, N, F => by
    simp only [Part.ok] at ok
    obtain ⟨g, g', c, h1, h2, h3, h4⟩ := F f _ ok.1
    have S := sims m as ns fs e e' ν P P' k ok.2 N F
    simp only [apM, den, h1, h2]
    have hg := h4 [] (fun r hr => by cases hr) ((dens true as e P).map (·.v)) P (by rw [List.length_map, dens_lenL])
    rw [List.append_nil] at hg
    refine ⟨?_, ?_, ?_⟩
    · show (g' ((dens m (apMs as ν k) e' P').map (·.v)) P').v = _
      rw [S.v]; exact hg.v
    · show (dens m (apMs as ν k) e' P').flatMap (·.said) ++ (g' ((dens m (apMs as ν k) e' P').map (·.v)) P').said = _
      rw [S.sd, S.v, hg.sd]
    · show nums ((dens m (apMs as ν k) e' P').flatMap (·.rows) ++ (g' ((dens m (apMs as ν k) e' P').map (·.v)) P').rows) = _
      rw [nums_app, S.nu, S.v, hg.nu, ← nums_app]
theorem sims (m : Bool) : ∀ (as : Parts) (ns : List Str) (fs : FE0) (e e' : SEnv) (ν : NuE) (P P' : List Room) (k : Nat), as.ok ns fs → SmN ns ν P P' k → SmF fs e e' P' k → Sms (dens true as e P) (dens m (apMs as ν k) e' P')
  | .nil, ns, fs, e, e', ν, P, P', k, ok, N, F => by simp only [apMs, dens]; exact ⟨rfl, rfl, rfl⟩
  | .cons p r, ns, fs, e, e', ν, P, P', k, ok, N, F => by
    simp only [Parts.ok] at ok
    have h1 := sim m p ns fs e e' ν P P' k ok.1 N F
    have h2 := sims m r ns fs e e' ν P P' _ ok.2 (N.mono (by omega : k ≤ k + p.bn)) (F.mono (by omega))
    simp only [apMs, dens]
    refine ⟨?_, ?_, ?_⟩
    · simp only [List.map_cons, h1.v, h2.v]
    · simp only [List.flatMap_cons, h1.sd, h2.sd]
    · simp only [List.flatMap_cons, nums_app, h1.nu, h2.nu]
end
/-! ### what is made is a program -/
structure OkN (ns ns' : List Str) (ν : NuE) : Prop where
  at_ : ∀ x ∈ ns, ∃ y, ν x = some y ∧ y ∈ ns'
mutual
theorem apM_ok : ∀ (p : Part) (ns ns' : List Str) (fs : FE0) (ν : NuE) (k : Nat), p.ok ns fs → OkN ns ns' ν → k + p.bn ≤ 17576 → (apM p ν k).ok ns' fs
  | .num n, ns, ns', fs, ν, k, ok, N, hk => by simpa only [apM, Part.ok] using ok
  | .name x, ns, ns', fs, ν, k, ok, N, hk => by
    simp only [Part.ok] at ok
    obtain ⟨y, h1, h2⟩ := N.at_ x ok
    simp only [apM, Part.ok, h1, Option.getD_some]; exact h2
  | .add a b, ns, ns', fs, ν, k, ok, N, hk => by
    simp only [Part.ok, Part.bn] at ok hk
    simp only [apM, Part.ok]
    exact ⟨apM_ok a ns ns' fs ν k ok.1 N (by omega), apM_ok b ns ns' fs ν _ ok.2 N (by omega)⟩
  | .less a b, ns, ns', fs, ν, k, ok, N, hk => by
    simp only [Part.ok, Part.bn] at ok hk
    simp only [apM, Part.ok]
    exact ⟨apM_ok a ns ns' fs ν k ok.1 N (by omega), apM_ok b ns ns' fs ν _ ok.2 N (by omega)⟩
  | .ite c a b, ns, ns', fs, ν, k, ok, N, hk => by
    simp only [Part.ok, Part.bn] at ok hk
    simp only [apM, Part.ok]
    exact ⟨apM_ok c ns ns' fs ν k ok.1 N (by omega), apM_ok a ns ns' fs ν _ ok.2.1 N (by omega), apM_ok b ns ns' fs ν _ ok.2.2 N (by omega)⟩
  | .say a, ns, ns', fs, ν, k, ok, N, hk => by
    simp only [Part.ok, Part.bn] at ok hk
    simp only [apM, Part.ok]
    exact apM_ok a ns ns' fs ν k ok N hk
  | .lt x a b, ns, ns', fs, ν, k, ok, N, hk => by
    simp only [Part.ok, Part.bn] at ok hk
    simp only [apM, Part.ok]
    refine ⟨nm_word (by omega), apM_ok a ns ns' fs ν k ok.2.1 N (by omega), apM_ok b (ns ++ [x]) _ fs _ _ ok.2.2 ⟨fun y hy => ?_⟩ (by omega)⟩
    by_cases q : y = x
    · exact ⟨_, if_pos q, List.mem_append_right _ (List.mem_singleton.mpr rfl)⟩
    · have hy' : y ∈ ns := by
        rcases List.mem_append.mp hy with z | z
        · exact z
        · exact absurd (List.mem_singleton.mp z) q
      obtain ⟨z, h1, h2⟩ := N.at_ y hy'
      exact ⟨z, (if_neg q).trans h1, List.mem_append_left _ h2⟩
  | .fn f ps b r, ns, ns', fs, ν, k, ok, N, hk => by
    simp only [Part.ok, Part.bn] at ok hk
    obtain ⟨hf, hl, nd, _, okb, okr⟩ := ok
    simp only [apM, Part.ok]
    refine ⟨hf, by rw [nms_len]; exact hl, nms_nodup _ _, fun x hx => ?_, apM_ok b (ns ++ ps) _ fs _ _ okb ⟨fun y hy => ?_⟩ (by omega), by rw [nms_len]; exact apM_ok r ns ns' _ ν _ okr N (by omega)⟩
    · obtain ⟨i, _, h2, rfl⟩ := nms_mem hx
      exact nm_word (by omega)
    · by_cases q : y ∈ ps
      · obtain ⟨i, v, h1, h2, h3, _⟩ := bindN_in (ν := ν) (k := k) (vs := ps.map fun _ => 0) nd q (by simp)
        refine ⟨_, h3, List.mem_append_right _ ?_⟩
        have := nms_get (n := ps.length) (k := k) (j := i - k) (by omega)
        rw [show k + (i - k) = i by omega] at this
        exact List.mem_of_getElem? this
      · have hy' : y ∈ ns := by
          rcases List.mem_append.mp hy with z | z
          · exact z
          · exact absurd z q
        obtain ⟨z, h1, h2⟩ := N.at_ y hy'
        exact ⟨z, (bindN_out ps ν k q).trans h1, List.mem_append_left _ h2⟩
  | .call f as, ns, ns', fs, ν, k, ok, N, hk => by
    simp only [Part.ok, Part.bn] at ok hk
    simp only [apM, Part.ok]
    exact ⟨by rw [apMs_len]; exact ok.1, apMs_ok as ns ns' fs ν k ok.2 N hk⟩
theorem apMs_ok : ∀ (as : Parts) (ns ns' : List Str) (fs : FE0) (ν : NuE) (k : Nat), as.ok ns fs → OkN ns ns' ν → k + as.bn ≤ 17576 → (apMs as ν k).ok ns' fs
  | .nil, ns, ns', fs, ν, k, ok, N, hk => by simp only [apMs, Parts.ok]
  | .cons p r, ns, ns', fs, ν, k, ok, N, hk => by
    simp only [Parts.ok, Parts.bn] at ok hk
    simp only [apMs, Parts.ok]
    exact ⟨apM_ok p ns ns' fs ν k ok.1 N (by omega), apMs_ok r ns ns' fs ν _ ok.2 N (by omega)⟩
end
/-- the made program -/
abbrev nu0 (ins : List Str) : NuE := bindN (fun _ => none) ins 0
abbrev apI (ins : List Str) : List Str := nms 0 ins.length
abbrev apP (ins : List Str) (p : Part) : Part := apM p (nu0 ins) ins.length
theorem ap_bn {ins : List Str} {p : Part} (O : ProgOk ins p) : ins.length + p.bn ≤ 3000 := by
  have := bn_mono p 12 O.wid
  have := O.sz
  have := O.il
  omega
theorem ap_progOk {ins : List Str} {p : Part} (O : ProgOk ins p) : ProgOk (apI ins) (apP ins p) := by
  have hb := ap_bn O
  refine ⟨by rw [nms_len]; exact O.il, nms_nodup _ _, fun x hx => ?_, apM_ok p ins _ _ _ _ O.ok ⟨fun y hy => ?_⟩ (by omega), by rw [apM_size]; exact O.sz, by rw [apM_dep]; exact O.dep, by rw [apM_wid]; exact O.wid⟩
  · obtain ⟨i, _, h2, rfl⟩ := nms_mem hx
    exact nm_word (by omega)
  · obtain ⟨i, v, h1, h2, h3, _⟩ := bindN_in (ν := fun _ => none) (k := 0) (vs := ins.map fun _ => 0) O.nd hy (by simp)
    refine ⟨_, h3, ?_⟩
    have := nms_get (n := ins.length) (k := 0) (j := i) (by omega)
    rw [Nat.zero_add] at this
    exact List.mem_of_getElem? this
theorem ap_runOk {ins : List Str} {p : Part} {ns : List Int} (R : RunOk ins p ns) : RunOk (apI ins) (apP ins p) ns :=
  ⟨ap_progOk R.ok, by rw [nms_len]; exact R.len, R.rg, by rw [apM_dpt]; exact R.dp, by rw [apM_cst]; exact R.cst⟩
theorem ap_sim (m : Bool) {ins : List Str} {p : Part} {ns : List Int} (R : RunOk ins p ns) : Sm (mean true ins p ns) (mean m (apI ins) (apP ins p) ns) := by
  refine sim m p ins (fun _ => none) _ _ _ _ _ _ R.ok.ok ⟨fun x hx => ?_⟩ fun f n h => by cases h
  obtain ⟨i, v, h1, h2, h3, h4, h5⟩ := bindN_in (ν := fun _ => none) (k := 0) R.ok.nd hx (R.len.symm)
  refine ⟨i, by omega, h3, ?_⟩
  have a := rd_top (P := []) h4
  have b := rd_top (P := []) h5
  rw [List.nil_append] at a b
  exact b.trans a.symm
end BN
namespace BN
open PySem L2 PyProof.Rows
/-! ### the Namer -/
def fl2 (n : Nat) : List (Str × V) := [("count", .int (n : Int))]
theorem fl2_get (n : Nat) : (fl2 n).lookup ("count" : Str) = some (.int (n : Int)) := by simp [fl2, List.lookup]
theorem fl2_no (n : Nat) {m : Str} (h : ¬ m = "count") : (fl2 n).lookup m = none := by
  have e : (m == ("count" : Str)) = false := by simpa using h
  simp only [fl2, List.lookup, e]
theorem fl2_put (n m : Nat) : putF "count" (.int (m : Int)) (fl2 n) = fl2 m := by
  show (if ("count" : Str) = "count" then _ else _) = _
  rw [if_pos rfl]; rfl
structure NamC (K : PySem.W.Frag) (C : Addr) : Prop where
  cl : Cls K C
  nC : NoAttr K C "count"
def spNmInit (C : Addr) : Sp := fun vs H Q _ => ∃ (p dx : Addr), vs = [.ref p] ∧ H p = some (.ins C dx []) ∧ Q .non (upd H p (.ins C dx (fl2 0)))
def t_nminit (K : PySem.W.Frag) : TS :=
  (sFld K (tVar 0) (tC (.int 0)) "count")
theorem pure_nminit {K : PySem.W.Frag} {C : Addr} (T : NamC K C) (vs : List V) (H : Hp) (Q : VK) (E : XK) (h : spNmInit C vs H Q E) : t_nminit K { nx := fun _ H' => Q .non H', rt := Q } (start ["self"] vs) H := by
  obtain ⟨p, dx, rfl, hp, k⟩ := h
  exact ⟨_, rfl, p, C, dx, [], rfl, hp, T.cl, T.nC, (by show 0 < 1000; decide), k⟩
theorem abc_at {i : Nat} (h : i < 26) : (("abcdefghijklmnopqrstuvwxyz" : Str)).cps.toList[i]? = some (97 + i) := by
  have key : ∀ k : Fin 26, (("abcdefghijklmnopqrstuvwxyz" : Str)).cps.toList[k.val]? = some (97 + k.val) := by decide +kernel
  exact key ⟨i, h⟩
def spFresh (K : PySem.W.Frag) (C : Addr) : Sp := fun vs H Q _ => ∃ (p dx : Addr) (k : Nat), vs = [.ref p] ∧ H p = some (.ins C dx (fl2 k)) ∧ k < 17576 ∧ Q (.str (nmS k)) (upd H p (.ins C dx (fl2 (k + 1))))
def t_fresh (K : PySem.W.Frag) : TS :=
  (tSeq (tAsg (tFld K (tVar 0) "count") (gName 1))
    (tSeq (sFldAug K (tVar 0) (tC (.int 1)) L2.rAdd "count")
    (tRet (tOp oAddS (tOp oAddS (tOp oAddS (tC (.str "v")) (tOp rIxS (tC (.str "abcdefghijklmnopqrstuvwxyz")) (tOp oDiv (tVar 1) (tC (.int 676))))) (tOp rIxS (tC (.str "abcdefghijklmnopqrstuvwxyz")) (tOp oMod (tOp oDiv (tVar 1) (tC (.int 26))) (tC (.int 26))))) (tOp rIxS (tC (.str "abcdefghijklmnopqrstuvwxyz")) (tOp oMod (tVar 1) (tC (.int 26))))))))
theorem pure_fresh {K : PySem.W.Frag} {C : Addr} (T : NamC K C) (vs : List V) (H : Hp) (Q : VK) (E : XK) (h : spFresh K C vs H Q E) : t_fresh K { nx := fun _ H' => Q .non H', rt := Q } (start ["self", "number"] vs) H := by
  obtain ⟨p, dx, k, rfl, hp, hk, q⟩ := h
  refine ⟨_, rfl, p, C, dx, _, _, rfl, hp, T.cl, T.nC, fl2_get _, ?_⟩
  refine ⟨_, rfl, p, C, dx, _, _, rfl, hp, T.cl, T.nC, fl2_get _, _, _, rfl, rfl, dx, _, hp, (by show 1 < 1000; decide), ?_⟩
  have e1 : putF "count" (.int ((k : Int) + 1)) (fl2 k) = fl2 (k + 1) := fl2_put k (k + 1)
  rw [e1]
  have a1 : ((k : Int) / 676) = ((k / 676 : Nat) : Int) := by omega
  have a2 : ((k : Int) / 26 % 26) = ((k / 26 % 26 : Nat) : Int) := by omega
  have a3 : ((k : Int) % 26) = ((k % 26 : Nat) : Int) := by omega
  have abl : (("abcdefghijklmnopqrstuvwxyz" : Str)).length ≤ sizeLine := one_sz (by decide +kernel)
  have lv : (("v" : Str)).length = 1 := by decide +kernel
  have l2 : ∀ c : Nat, (("v" : Str) ++ (⟨#[c]⟩ : Str)).length = 2 := fun c => by rw [Str.length_append, lv]; rfl
  have l3 : ∀ c d : Nat, (("v" : Str) ++ (⟨#[c]⟩ : Str) ++ (⟨#[d]⟩ : Str)).length = 3 := fun c d => by rw [Str.length_append, l2]; rfl
  refine ⟨_, rfl, _, _, rfl, rfl, ⟨by decide, by decide⟩, _, _, 97 + k / 676, rfl, rfl, abl, ?_, _, _, rfl, rfl, one_sz (by rw [lv]; show 1 + 1 ≤ 1000; decide), ?_⟩
  · show atI _ ((k : Int) / 676) = _
    rw [a1]; exact atI_nat (abc_at (by omega))
  refine ⟨_, rfl, _, _, rfl, rfl, ⟨by decide, by decide⟩, _, _, rfl, rfl, (by show (0 : Int) < 26; decide), _, _, 97 + k / 26 % 26, rfl, rfl, abl, ?_, _, _, rfl, rfl, one_sz (by rw [l2]; show 2 + 1 ≤ 1000; decide), ?_⟩
  · show atI _ ((k : Int) / 26 % 26) = _
    rw [a2]; exact atI_nat (abc_at (by omega))
  refine ⟨_, rfl, _, _, rfl, rfl, (by show (0 : Int) < 26; decide), _, _, 97 + k % 26, rfl, rfl, abl, ?_, _, _, rfl, rfl, one_sz (by rw [l3]; show 3 + 1 ≤ 1000; decide), ?_⟩
  · show atI _ ((k : Int) % 26) = _
    rw [a3]; exact atI_nat (abc_at (by omega))
  have ev : ("v" : Str) = ⟨#[118]⟩ := by decide +kernel
  rw [ev]
  exact q
/-! ### made -/
theorem flat_snoc {α β : Type} {f : α → List β} {l : List α} {i : Nat} {x : α} (h : l[i]? = some x) : (l.take (i + 1)).flatMap f = (l.take i).flatMap f ++ f x := by
  rw [take_more h, List.flatMap_append]; simp
theorem sz_lt' {n : Nat} (h : n ≤ 200000) : n < sizeLine := Nat.lt_of_le_of_lt h (by rw [sizeLine_eq]; decide)
abbrev NRel (kvs : List (Key × V)) (ν : NuE) : Prop := ∀ x : Str, valV kvs (Sum.inr x) = (ν x).map V.str
theorem NRel.put {kvs : List (Key × V)} {ν : NuE} (h : NRel kvs ν) (x y : Str) : NRel (putK kvs (Sum.inr x) (.str y)) (putN ν x y) := fun g => by
  rw [valV_put]
  unfold putN
  by_cases e : g = x
  · subst e; simp
  · rw [if_neg (by simpa using e), if_neg e]; exact h g
structure MdOk (n : Nat) (pt : Part) (ns : List Str) (fs : FE0) (ν : NuE) (kvs : List (Key × V)) (k : Nat) : Prop where
  rel : NRel kvs ν
  ok : pt.ok ns fs
  dom : ∀ x ∈ ns, (ν x).isSome = true
  dn : pt.dep ≤ n
  wid : pt.wid ≤ 1000
  sz : k + pt.bn ≤ 17576
  fl : kvs.length ≤ k
def bnL : List Part → Nat
  | [] => 0
  | p :: r => p.bn + bnL r
def apL : List Part → NuE → Nat → List Part
  | [], _, _ => []
  | p :: r, ν, k => apM p ν k :: apL r ν (k + p.bn)
theorem bnL_list : ∀ as : Parts, bnL as.list = as.bn
  | .nil => rfl
  | .cons p r => by rw [Parts.list, bnL, Parts.bn, bnL_list r]
theorem apL_list : ∀ (as : Parts) (ν : NuE) (k : Nat), (apMs as ν k).list = apL as.list ν k
  | .nil, ν, k => rfl
  | .cons p r, ν, k => by simp only [apMs, Parts.list, apL, apL_list r]
theorem apL_len : ∀ (l : List Part) (ν : NuE) (k : Nat), (apL l ν k).length = l.length
  | [], ν, k => rfl
  | p :: r, ν, k => by rw [apL, List.length_cons, List.length_cons, apL_len r]
theorem apL_get : ∀ {l : List Part} {ν : NuE} {k i : Nat} {q : Part}, l[i]? = some q → (apL l ν k)[i]? = some (apM q ν (k + bnL (l.take i)))
  | p :: r, ν, k, 0, q, h => by
    have e : p = q := by simpa using h
    subst e; simp [apL, bnL]
  | p :: r, ν, k, i + 1, q, h => by
    rw [apL, List.getElem?_cons_succ, apL_get (l := r) (by simpa using h), List.take_succ_cons, bnL, Nat.add_assoc]
theorem bnL_app : ∀ a b : List Part, bnL (a ++ b) = bnL a + bnL b
  | [], b => by simp [bnL]
  | p :: r, b => by simp only [List.cons_append, bnL, bnL_app r b]; omega
theorem bnL_more {l : List Part} {i : Nat} {q : Part} (h : l[i]? = some q) : bnL (l.take (i + 1)) = bnL (l.take i) + q.bn := by
  rw [take_more h, bnL_app]; simp [bnL]
theorem bnL_le (l : List Part) (i : Nat) : bnL (l.take i) ≤ bnL l := by
  have h := bnL_app (l.take i) (l.drop i)
  rw [List.take_append_drop] at h
  omega
def spMade (K : PySem.W.Frag) (C : Addr) (n : Nat) : Sp := fun vs H Q _ => ∃ (p dx : Addr) (v : V) (an : Addr) (pt : Part) (ns : List Str) (fs : FE0) (ν : NuE) (kvs : List (Key × V)) (k : Nat), vs = [.ref p, v, .ref an] ∧
  H p = some (.ins C dx (fl2 k)) ∧ Dp K H v pt.enc ∧ H an = some (.dK kvs) ∧ MdOk n pt ns fs ν kvs k ∧
  ∀ v' H', Fr (cI p) H H' → H' p = some (.ins C dx (fl2 (k + pt.bn))) → Dp K H' v' (apM pt ν k).enc → Q v' H'
theorem made_lc {K : PySem.W.Frag} {C p dx an : Addr} {n k : Nat} {ta : Addr} {ws : List V} {l : List Part} {ns : List Str} {fs : FE0} {ν : NuE} {kvs : List (Key × V)} {H1 : Hp} {te : TE} {σ : L2.St} {Q : Addr → Hp → Prop}
    (hte : ∀ x H' Q, spMade K C n [.ref p, x, .ref an] H' Q C8.E0 → te ((wipe σ [8]).set 8 (some x)) H' Q)
    (hA : SqT K H1 ta ws) (da : DpAll K H1 ws (l.map Part.enc)) (hp : H1 p = some (.ins C dx (fl2 k))) (hn : H1 an = some (.dK kvs)) (O : ∀ q ∈ l, ∀ j, j + q.bn ≤ k + bnL l → k ≤ j → MdOk n q ns fs ν kvs j) (hl : l.length ≤ 100000)
    (hq : ∀ D vs H', H1 D = none → H' D = some (.lst vs) → DpAll K H' vs ((apL l ν k).map Part.enc) → Fr (cI p) H1 H' → H' p = some (.ins C dx (fl2 (k + bnL l))) → Q D H') : ∀ D, H1 D = none →
    ∃ W : Nat → Nat → Hp → Prop, (∃ m, W 0 m (upd H1 D (.lst []))) ∧ ∀ i m H, W i m H →
      ((Itt K ta).stop i H ∧ Q D H) ∨ ((Itt K ta).go i H ∧ ∃ Nx : Hp → Prop, (∀ H', Nx H' → ∃ m', m' < m ∧ W (i + 1) m' H') ∧ ∀ x H', (Itt K ta).yld i H x H' → gName 8 x (wipe σ [8]) H' fun σ2 H2 => wipe σ2 [8] = wipe σ [8] ∧ tYes σ2 H2 fun b H3 =>
        if b = true then te σ2 H3 fun y H4 => ∃ acc, H4 D = some (.lst acc) ∧ acc.length < sizeLine ∧ Nx (upd H4 D (.lst (acc ++ [y]))) else Nx H3) := by
  have lw : ws.length = l.length := by rw [da.len, List.length_map]
  have nan : ∀ o, ¬ cI p an o := fun o z => by
    have e : an = p := z
    rw [e, hp] at hn; cases hn
  refine lcJ_tup (K := K) (C := cI p) (I := fun i H' => H' p = some (.ins C dx (fl2 (k + bnL (l.take i))))) (Good := fun i d => ∃ q, l[i]? = some q ∧ d = (apM q ν (k + bnL (l.take i))).enc) hA
    (fun i H' D ys hD f h => by
      have ne : p ≠ D := fun z => by rw [← z, hp] at hD; cases hD
      show upd H' D _ p = _
      rw [upd_ne ne]; exact h)
    (fun D o hD z => by
      have e : D = p := z
      rw [e, hp] at hD; cases hD) (by simpa [bnL] using hp) (by omega) ?_ ?_
  · intro i x hx H' f hi Q' hQ'
    obtain ⟨dd, hdd, Dx⟩ := da.getV hx
    obtain ⟨q, hqi, rfl⟩ := map_at hdd
    have hm := List.mem_of_getElem? hqi
    have s1 := bnL_more hqi
    have s2 := bnL_le l (i + 1)
    refine hte x H' Q' ⟨p, dx, x, an, q, ns, fs, ν, kvs, k + bnL (l.take i), rfl, hi, Dp.fr f _ _ (tup_enc q) Dx, f.at hn (nan _), O q hm _ (by omega) (by omega), fun v' H2 f2 hp2 d2 => ?_⟩
    refine hQ' _ v' H2 ⟨q, hqi, rfl⟩ (tup_enc _) d2 f2 ?_
    show H2 p = _
    rw [s1, ← Nat.add_assoc]; exact hp2
  · intro D vs ds H' hD eD dD ld gd f hi
    have ed : ds = (apL l ν k).map Part.enc := by
      refine List.ext_getElem? fun j => ?_
      by_cases hj : j < l.length
      · obtain ⟨d, hd⟩ := get_lt (l := ds) (i := j) (by omega)
        obtain ⟨q, hq1, hq2⟩ := (gd j d hd).1
        rw [hd, hq2, List.getElem?_map, apL_get hq1]; rfl
      · rw [List.getElem?_eq_none (by omega), List.getElem?_eq_none (by rw [List.length_map, apL_len]; omega)]
    subst ed
    rw [lw, List.take_length] at hi
    exact hq D vs H' hD eD dD f hi
theorem bindN_snoc : ∀ (l : List Str) (x : Str) (ν : NuE) (k : Nat), bindN ν (l ++ [x]) k = putN (bindN ν l k) x (nmS (k + l.length))
  | [], x, ν, k => rfl
  | y :: l, x, ν, k => by
    rw [List.cons_append, bindN, bindN_snoc l x _ (k + 1), bindN, List.length_cons, show k + 1 + l.length = k + (l.length + 1) by omega]
theorem nms_snoc : ∀ (n k : Nat), nms k (n + 1) = nms k n ++ [nmS (k + n)] := fun n k => by rw [nms_add n 1 k]; rfl
theorem dom_put {ns : List Str} {ν : NuE} {x y : Str} (h : ∀ z ∈ ns, (ν z).isSome = true) : ∀ z ∈ ns ++ [x], (putN ν x y z).isSome = true := fun z hz => by
  unfold putN
  by_cases e : z = x
  · rw [if_pos e]; rfl
  · rw [if_neg e]
    rcases List.mem_append.mp hz with q | q
    · exact h z q
    · exact absurd (List.mem_singleton.mp q) e
theorem dom_bind : ∀ (ps ns : List Str) (ν : NuE) (k : Nat), (∀ z ∈ ns, (ν z).isSome = true) → ∀ z ∈ ns ++ ps, (bindN ν ps k z).isSome = true
  | [], ns, ν, k, h => fun z hz => h z (by simpa using hz)
  | p :: r, ns, ν, k, h => fun z hz => by
    rw [bindN]
    exact dom_bind r (ns ++ [p]) _ (k + 1) (dom_put h) z (by simpa using hz)
def t_made (K : PySem.W.Frag) (cNam : Addr) (n : Nat) : TS :=
  (tSeq (tAsg (tOp (rIxT K) (tVar 1) (tC (.int 0))) (gName 3))
    (tSeq (tIfS (tTest (tOp rEq (tVar 3) (tC (.str "name")))) (tRet (tTup (tCons (tC (.str "name")) (tCons (tDGet (tVar 2) (tOp (rIxT K) (tVar 1) (tC (.int 1)))) tNil)))) tNext)
    (tSeq (tIfS (tTest (tOp rEq (tVar 3) (tC (.str "let")))) (tSeq (tAsg (tMeth cNam "made" (spMade K cNam n) [] C8.E0 (tVar 0) (tCons (tOp (rIxT K) (tVar 1) (tC (.int 2))) (tCons (tVar 2) tNil))) (gName 4))
    (tSeq (tAsg (tCB rDictD (tCons (tVar 2) tNil)) (gName 5))
    (tSeq (sDPut (tVar 5) (tOp (rIxT K) (tVar 1) (tC (.int 1))) (tMeth cNam "fresh" (spFresh K cNam) [] C8.E0 (tVar 0) tNil))
    (tRet (tTup (tCons (tC (.str "let")) (tCons (tDGet (tVar 5) (tOp (rIxT K) (tVar 1) (tC (.int 1)))) (tCons (tVar 4) (tCons (tMeth cNam "made" (spMade K cNam n) [] C8.E0 (tVar 0) (tCons (tOp (rIxT K) (tVar 1) (tC (.int 3))) (tCons (tVar 5) tNil))) tNil))))))))) tNext)
    (tSeq (tIfS (tTest (tOp rEq (tVar 3) (tC (.str "fun")))) (tSeq (tAsg (tCB rDictD (tCons (tVar 2) tNil)) (gName 5))
    (tSeq (tAsg (tLst tNil) (gName 6))
    (tSeq (tFor (iTup K (tOp (rIxT K) (tVar 1) (tC (.int 2)))) (gName 7) (tSeq (sDPut (tVar 5) (tVar 7) (tMeth cNam "fresh" (spFresh K cNam) [] C8.E0 (tVar 0) tNil))
    (tDrop (tBM K "list" rAppend (tVar 6) (tCons (tDGet (tVar 5) (tVar 7)) tNil)))))
    (tRet (tTup (tCons (tC (.str "fun")) (tCons (tOp (rIxT K) (tVar 1) (tC (.int 1))) (tCons (tCB (rTupSq K) (tCons (tVar 6) tNil)) (tCons (tMeth cNam "made" (spMade K cNam n) [] C8.E0 (tVar 0) (tCons (tOp (rIxT K) (tVar 1) (tC (.int 3))) (tCons (tVar 5) tNil))) (tCons (tMeth cNam "made" (spMade K cNam n) [] C8.E0 (tVar 0) (tCons (tOp (rIxT K) (tVar 1) (tC (.int 4))) (tCons (tVar 2) tNil))) tNil)))))))))) tNext)
    (tSeq (tIfS (tTest (tOp rEq (tVar 3) (tC (.str "call")))) (tRet (tTup (tCons (tC (.str "call")) (tCons (tOp (rIxT K) (tVar 1) (tC (.int 1))) (tCons (tCB (rTupSq K) (tCons (tLc (iTup K (tOp (rIxT K) (tVar 1) (tC (.int 2)))) (gName 8) tYes (tMeth cNam "made" (spMade K cNam n) [] C8.E0 (tVar 0) (tCons (tVar 8) (tCons (tVar 2) tNil))) [8]) tNil)) tNil))))) tNext)
    (tRet (tOp (rCatT K) (tTup (tCons (tVar 3) tNil)) (tCB (rTupSq K) (tCons (tLc (iTup K (tSl (rSlT K) (tVar 1) (tPart (tC (.int 1))) tNoPart)) (gName 8) tYes (tIf (tTest (tOp rEq (tVar 3) (tC (.str "num")))) (tVar 8) (tMeth cNam "made" (spMade K cNam n) [] C8.E0 (tVar 0) (tCons (tVar 8) (tCons (tVar 2) tNil)))) [8]) tNil)))))))))
def flat4 : Part → Bool
  | .add _ _ => true | .less _ _ => true | .ite _ _ _ => true | .say _ => true | _ => false
theorem flat4_enc {p : Part} (h : flat4 p = true) : p.enc = .tuple (.str p.word :: p.inner.map Part.enc) ∧ p.bn = bnL p.inner ∧ p.inner ≠ [] ∧ p.inner.length ≤ 3 ∧ ∀ ν k, (apM p ν k).enc = .tuple (.str p.word :: (apL p.inner ν k).map Part.enc) := by
  cases p <;> simp [flat4] at h
  all_goals simp [Part.enc, Part.word, Part.inner, Part.bn, bnL, apM, apL]
  all_goals first | trivial | (intros; rfl) | skip
theorem flat4_flat {p : Part} (h : flat4 p = true) : flatP p = true := by cases p <;> simp [flat4] at h <;> rfl
theorem made_tail {K : PySem.W.Frag} {C p dx an t : Addr} {n k : Nat} {pt : Part} {ns : List Str} {fs : FE0} {ν : NuE} {kvs : List (Key × V)} {H : Hp} {Q : VK} (h4 : flat4 pt = true)
    (hp : H p = some (.ins C dx (fl2 k))) (hd : Dp K H (.ref t) pt.enc) (hn : H an = some (.dK kvs)) (O : MdOk (n + 1) pt ns fs ν kvs k)
    (q : ∀ v' H', Fr (cI p) H H' → H' p = some (.ins C dx (fl2 (k + pt.bn))) → Dp K H' v' (apM pt ν k).enc → Q v' H') :
    (tRet (tOp (rCatT K) (tTup (tCons (tVar 3) tNil)) (tCB (rTupSq K) (tCons (tLc (iTup K (tSl (rSlT K) (tVar 1) (tPart (tC (.int 1))) tNoPart)) (gName 8) tYes (tIf (tTest (tOp rEq (tVar 3) (tC (.str "num")))) (tVar 8) (tMeth C "made" (spMade K C n) [] C8.E0 (tVar 0) (tCons (tVar 8) (tCons (tVar 2) tNil)))) [8]) tNil))))
      { nx := fun _ H' => Q .non H', rt := Q } [some (.ref p), some (.ref t), some (.ref an), some (.str pt.word), none, none, none, none, none] H := by
  obtain ⟨e1, e2, e3, e4, e5⟩ := flat4_enc h4
  have o1 := O.dn; have o2 := O.wid; have o3 := O.sz; have o4 := O.fl
  rw [e1] at hd
  obtain ⟨t', xs, et, hT, ha⟩ := hd.tup_inv
  cases et
  obtain ⟨ws, rfl, hws⟩ : ∃ ws, xs = .str pt.word :: ws ∧ DpAll K H ws (pt.inner.map Part.enc) := by
    cases ha with
    | cons hw hws => cases hw; exact ⟨_, rfl, hws⟩
  have lw : ws.length = pt.inner.length := by rw [hws.len, List.length_map]
  have lw1 : ws ≠ [] := fun z => e3 (List.length_eq_zero_iff.mp (by rw [← lw, z]; rfl))
  refine ⟨_, rfl, one_sz (by show 1 ≤ 1000; decide), fun t1 ht1 => ?_⟩
  have f1 : Fr c0 H (upd H t1 (.tup [.str pt.word])) := Fr.new ht1
  have hT1 : (upd H t1 (.tup [.str pt.word])) t1 = some (.tup [.str pt.word]) := upd_same
  have hTt := f1.sqT hT
  have hws1 := Dp.sms f1 _ _ hws
  have hp1 := f1.at hp (fun z => z)
  have hn1 := f1.at hn (fun z => z)
  generalize (upd H t1 (.tup [.str pt.word])) = H1 at f1 hT1 hTt hws1 hp1 hn1 ⊢
  refine ⟨_, rfl, _, rfl, t, _, rfl, hTt, ?_, fun t2 ht2 => ?_⟩
  · intro z
    have := z.1
    have e : HT.sIx (V.str pt.word :: ws).length 0 (some 1) = min 1 (V.str pt.word :: ws).length := HT.sIx_nat _ _ 1
    rw [e] at this
    simp at this
  have ec : cutV (V.str pt.word :: ws) (some 1) none = ws := by
    have l1 : (V.str pt.word :: ws).length = ws.length + 1 := rfl
    show ((V.str pt.word :: ws).drop (HT.sIx _ 0 (some 1))).take _ = ws
    rw [show HT.sIx (V.str pt.word :: ws).length 0 (some 1) = min 1 (V.str pt.word :: ws).length from HT.sIx_nat _ _ 1, HT.sIx_none, l1, show min 1 (ws.length + 1) = 1 by omega]
    simp
  rw [ec]
  have f2 : Fr c0 H1 (upd H1 t2 (.tup ws)) := Fr.new ht2
  have f12 := f1.trans f2
  refine ⟨t2, rfl, ⟨ws, SqT.of upd_same⟩, ?_⟩
  have nnum : decide (V.str pt.word = V.str "num") = false := by cases pt <;> simp [flat4] at h4 <;> kernel_rfl
  refine made_lc (n := n) (l := pt.inner) (ns := ns) (fs := fs) (ν := ν) (fun x H' Q' h => ?_) (SqT.of upd_same) (Dp.sms f2 _ _ hws1) (f2.at hp1 (fun z => z)) (f2.at hn1 (fun z => z)) (fun q' hq j hj hk => ?_) (by omega) fun D vs H3 hD eD dD f3 hp3 => ?_
  · refine ⟨_, rfl, rfl, _, rfl, ifF nnum ?_⟩
    obtain ⟨p', dx', v', an', pt', ns', fs', ν', kvs', k', e, h1, h2⟩ := h
    cases e
    exact ⟨_, rfl, p, dx', _, rfl, h1, fl2_no _ (by decide +kernel), _, rfl, _, rfl, p, dx', x, an, pt', ns', fs', ν', kvs', k', rfl, h1, h2⟩
  · have h1 := dep_inner pt q' hq
    have h2 := wid_inner pt q' hq
    exact ⟨O.rel, flat_in (flat4_flat h4) O.ok q' hq, O.dom, by omega, by omega, by rw [← e2] at hj; omega, by omega⟩
  · have lv : vs.length = ws.length := by rw [dD.len, List.length_map, apL_len, lw]
    refine ⟨D, _, rfl, .inl ⟨SqL.of eD, fun t3 ht3 => ?_⟩⟩
    have f4 : Fr c0 H3 (upd H3 t3 (.tup vs)) := Fr.new ht3
    have f04 := ((Fr.of0 (C := cI p) f12).trans f3).trans (Fr.of0 f4)
    have hT4 : (upd H3 t3 (.tup vs)) t1 = some (.tup [.str pt.word]) := (f3.trans (Fr.of0 f4)).tup (f2.tup hT1)
    refine ⟨t1, t3, _, _, rfl, rfl, SqT.of hT4, SqT.of upd_same, (fun z => by cases z), one_sz (by rw [lv, lw]; show 1 + _ ≤ 1000; omega), fun z => absurd (by rw [z] at lv; exact List.length_eq_zero_iff.mp lv.symm) lw1, fun _ t5 ht5 => ?_⟩
    have f5 : Fr c0 (upd H3 t3 (.tup vs)) (upd (upd H3 t3 (.tup vs)) t5 (.tup ([.str pt.word] ++ vs))) := Fr.new ht5
    have f35 := f4.trans f5
    refine q _ _ (f04.trans (Fr.of0 f5)) (f35.at (by rw [e2]; exact hp3) (fun z => z)) ?_
    rw [e5]
    refine .tup (SqT.of upd_same) (.cons (.str _) (Dp.frs f35 _ _ (tupDs_all fun d hd => ?_) dD))
    obtain ⟨q, _, rfl⟩ := List.mem_map.mp hd
    exact tup_enc q
end BN
namespace BN
open PySem L2 PyProof.Rows
theorem apI_enc (f : Str) (as : Parts) (ν : NuE) (k : Nat) : (apM (.call f as) ν k).enc = .tuple [.str "call", .str f, .tuple ((apL as.list ν k).map Part.enc)] := by
  simp only [apM, Part.enc, Parts.encs_list, apL_list]
theorem pure_made {K : PySem.W.Frag} {C : Addr} {n : Nat} (vs : List V) (H : Hp) (Q : VK) (E : XK) (h : spMade K C (n + 1) vs H Q E) :
    t_made K C n { nx := fun _ H' => Q .non H', rt := Q } (start ["self", "part", "names", "word", "first", "known", "params", "name", "one"] vs) H := by
  obtain ⟨p, dx, v, an, pt, ns, fs, ν, kvs, k, rfl, hp, hd, hn, O, q⟩ := h
  obtain ⟨t, xs, rfl, hT, hx⟩ := inv_head hd
  have o1 := O.dn; have o2 := O.wid; have o3 := O.sz; have o4 := O.fl
  have nan : ∀ o, ¬ cI p an o := fun o z => by
    have e : an = p := z
    rw [e, hp] at hn; cases hn
  refine ⟨_, rfl, t, _, _, _, rfl, rfl, hT, atI_nat (j := 0) rfl, ?_⟩
  have tail := fun (h4 : flat4 pt = true) => made_tail h4 hp hd hn O q
  cases pt with
  | name x =>
    obtain ⟨t', e, hT3⟩ := inv_name hd
    cases e
    have hm : x ∈ ns := by simpa only [Part.ok] using O.ok
    obtain ⟨y, hy⟩ := Option.isSome_iff_exists.mp (O.dom x hm)
    refine ⟨_, rfl, rfl, _, rfl, ifT (by kernel_rfl) ?_⟩
    refine ⟨_, rfl, _, rfl, t, _, _, _, rfl, rfl, hT3, rfl, an, .str y, rfl, .inl ⟨kvs, Sum.inr x, .inl hn, rfl, by rw [O.rel x, hy]; rfl⟩, one_sz (by show 2 ≤ 1000; decide), fun u hu => ?_⟩
    have f1 : Fr (cI p) H (upd H u (.tup [.str "name", .str y])) := Fr.new hu
    refine q _ _ f1 ((Fr.new (C := c0) hu).at hp (fun z => z)) ?_
    simp only [apM, hy, Option.getD_some, Part.enc]
    exact .tup (SqT.of upd_same) (.cons (.str _) (.cons (.str _) .nil))
  | lt x a b =>
    obtain ⟨t', va, vb, e, hT3, da, db⟩ := inv_lt hd
    cases e
    have ho := O.ok
    simp only [Part.ok] at ho
    simp only [Part.dep] at o1
    simp only [Part.wid] at o2
    simp only [Part.bn] at o3 q
    refine ⟨_, rfl, rfl, _, rfl, ifF (by kernel_rfl) ?_⟩
    refine ⟨_, rfl, rfl, _, rfl, ifT (by kernel_rfl) ?_⟩
    refine ⟨_, rfl, p, dx, _, rfl, hp, fl2_no _ (by decide +kernel), _, rfl, t, _, _, _, rfl, rfl, hT3, rfl, _, rfl, p, dx, va, an, a, ns, fs, ν, kvs, k, rfl, hp, da, hn, ⟨O.rel, ho.2.1, O.dom, by omega, by omega, by omega, o4⟩, fun v1 H1 f1 hp1 d1 => ?_⟩
    have hn1 := f1.at hn (nan _)
    refine ⟨_, rfl, an, kvs, rfl, .inl hn1, fun kn hkn => ?_⟩
    have f2 : Fr c0 H1 (upd H1 kn (.dK kvs)) := Fr.new hkn
    have hp2 := f2.at hp1 (fun z => z)
    have hk2 : (upd H1 kn (.dK kvs)) kn = some (.dK kvs) := upd_same
    have nkp : kn ≠ p := fun z => by rw [z, hp1] at hkn; cases hkn
    refine ⟨_, rfl, p, dx, _, rfl, hp2, fl2_no _ (by decide +kernel), p, dx, k + a.bn, rfl, hp2, by omega, ?_⟩
    have f3 : Fr (cI p) (upd H1 kn (.dK kvs)) (upd (upd H1 kn (.dK kvs)) p (.ins C dx (fl2 (k + a.bn + 1)))) := Fr.setI hp2 trivial
    have hp3 : (upd (upd H1 kn (.dK kvs)) p (.ins C dx (fl2 (k + a.bn + 1)))) p = some (.ins C dx (fl2 (k + a.bn + 1))) := upd_same
    have hk3 := f3.at hk2 nkp
    have f13 := (Fr.of0 (C := cI p) f2).trans f3
    have f03 := f1.trans f13
    refine ⟨_, rfl, _, rfl, t, _, _, _, rfl, rfl, f03.sqT hT3, rfl, kn, _, rfl, DPut.k (k := Sum.inr x) hk3 (sz_lt' (by omega)), ?_⟩
    have f4 : Fr (cI p) H1 (upd (upd (upd H1 kn (.dK kvs)) p (.ins C dx (fl2 (k + a.bn + 1)))) kn (.dK (putK kvs (Sum.inr x) (.str (nmS (k + a.bn)))))) := f13.fresh hkn
    have hp4 : (upd (upd (upd H1 kn (.dK kvs)) p (.ins C dx (fl2 (k + a.bn + 1)))) kn (.dK (putK kvs (Sum.inr x) (.str (nmS (k + a.bn)))))) p = some (.ins C dx (fl2 (k + a.bn + 1))) := by rw [upd_ne nkp.symm]; exact hp3
    have hk4 : (upd (upd (upd H1 kn (.dK kvs)) p (.ins C dx (fl2 (k + a.bn + 1)))) kn (.dK (putK kvs (Sum.inr x) (.str (nmS (k + a.bn)))))) kn = some (.dK (putK kvs (Sum.inr x) (.str (nmS (k + a.bn))))) := upd_same
    generalize (upd (upd (upd H1 kn (.dK kvs)) p (.ins C dx (fl2 (k + a.bn + 1)))) kn (.dK (putK kvs (Sum.inr x) (.str (nmS (k + a.bn)))))) = H4 at f4 hp4 hk4 ⊢
    have f04 := f1.trans f4
    have pk := putK_le kvs (Sum.inr x) (.str (nmS (k + a.bn)))
    have rel2 := O.rel.put x (nmS (k + a.bn))
    have eg : valV (putK kvs (Sum.inr x) (.str (nmS (k + a.bn)))) (Sum.inr x) = some (.str (nmS (k + a.bn))) := by rw [rel2 x]; unfold putN; rw [if_pos rfl]; rfl
    refine ⟨_, rfl, _, rfl, t, _, _, _, rfl, rfl, f04.sqT hT3, rfl, kn, _, rfl, .inl ⟨_, Sum.inr x, .inl hk4, rfl, eg.symm⟩, _, rfl, _, rfl, p, dx, _, rfl, hp4, fl2_no _ (by decide +kernel), ?_⟩
    refine ⟨_, rfl, t, _, _, _, rfl, rfl, f04.sqT hT3, rfl, _, rfl, p, dx, vb, kn, b, ns ++ [x], fs, putN ν x (nmS (k + a.bn)), _, k + a.bn + 1, rfl, hp4, Dp.fr f04 _ _ (tup_enc b) db, hk4, ⟨rel2, ho.2.2, dom_put O.dom, by omega, by omega, by omega, by omega⟩, fun v2 H5 f5 hp5 d5 => ?_⟩
    refine ⟨one_sz (by show 4 ≤ 1000; decide), fun u hu => ?_⟩
    have f6 : Fr c0 H5 (upd H5 u (.tup [.str "let", .str (nmS (k + a.bn)), v1, v2])) := Fr.new hu
    refine q _ _ ((f04.trans f5).trans (Fr.of0 f6)) (f6.at (by rw [show k + (a.bn + (1 + b.bn)) = k + a.bn + 1 + b.bn by omega]; exact hp5) (fun z => z)) ?_
    simp only [apM, Part.enc]
    exact .tup (SqT.of upd_same) (.cons (.str _) (.cons (.str _) (.cons (Dp.fr ((f4.trans f5).trans (Fr.of0 f6)) _ _ (tup_enc _) d1) (.cons (Dp.fr f6 _ _ (tup_enc _) d5) .nil))))
  | fn f ps a b =>
    obtain ⟨t', tp, va, vb, e, hT3, hTp, da, db⟩ := inv_fn hd
    cases e
    have ho := O.ok
    simp only [Part.ok] at ho
    obtain ⟨h1, h2, h3, h4, h5, h6⟩ := ho
    simp only [Part.dep] at o1
    simp only [Part.wid] at o2
    simp only [Part.bn] at o3 q
    refine ⟨_, rfl, rfl, _, rfl, ifF (by kernel_rfl) ?_⟩
    refine ⟨_, rfl, rfl, _, rfl, ifF (by kernel_rfl) ?_⟩
    refine ⟨_, rfl, rfl, _, rfl, ifT (by kernel_rfl) ?_⟩
    refine ⟨_, rfl, an, kvs, rfl, .inl hn, fun kn hkn => ?_⟩
    have f1 : Fr c0 H (upd H kn (.dK kvs)) := Fr.new hkn
    have hk1 : (upd H kn (.dK kvs)) kn = some (.dK kvs) := upd_same
    have nkp : kn ≠ p := fun z => by rw [z, hp] at hkn; cases hkn
    refine ⟨one_sz (Nat.zero_le _), fun L hL => ?_⟩
    have f2 : Fr c0 (upd H kn (.dK kvs)) (upd (upd H kn (.dK kvs)) L (.lst [])) := Fr.new hL
    have hk2 := f2.at hk1 (fun z => z)
    have hL0 : H L = none := f1.free _ hL
    have nkL : kn ≠ L := fun z => by rw [← z, hk1] at hL; cases hL
    have nLp : L ≠ p := fun z => by rw [z, hp] at hL0; cases hL0
    have f12 := f1.trans f2
    have hp2 := f12.at hp (fun z => z)
    have hL2 : (upd (upd H kn (.dK kvs)) L (.lst [])) L = some (.lst []) := upd_same
    generalize (upd (upd H kn (.dK kvs)) L (.lst [])) = H2 at f12 hk2 hp2 hL2 ⊢
    refine ⟨_, rfl, t, _, _, _, rfl, rfl, f12.sqT hT3, rfl, tp, rfl, ⟨_, f12.sqT hTp⟩, ?_⟩
    refine for_tup (K := K) (a := tp) (xs := ps.map V.str) (fun i σ H' => ∃ s7 kv2, σ = [some (.ref p), some (.ref t), some (.ref an), some (.str (Part.fn f ps a b).word), none, some (.ref kn), some (.ref L), s7, none] ∧ Fr (cI p) H H' ∧ H' p = some (.ins C dx (fl2 (k + i))) ∧ H' kn = some (.dK kv2) ∧ NRel kv2 (bindN ν (ps.take i) k) ∧ kv2.length ≤ k + i ∧ H' L = some (.lst ((nms k i).map V.str)))
      ⟨_, kvs, rfl, Fr.of0 f12, hp2, hk2, O.rel, o4, hL2⟩ (fun i σ H' _ ⟨_, _, _, f', _⟩ => f'.sqT hTp) ?_ ?_
    · rintro i x σ H3 hx ⟨s7, kv2, rfl, f3, hp3, hk3, rel3, l3, hL3⟩
      obtain ⟨y, hy, rfl⟩ := map_at hx
      have hi := at_lt hy
      refine ⟨_, rfl, p, dx, _, rfl, hp3, fl2_no _ (by decide +kernel), p, dx, k + i, rfl, hp3, by omega, ?_⟩
      have g1 : Fr (cI p) H3 (upd H3 p (.ins C dx (fl2 (k + i + 1)))) := Fr.setI hp3 trivial
      have hk4 := g1.at hk3 nkp
      have hL4 := g1.at hL3 nLp
      have f4 := f3.trans g1
      refine ⟨_, rfl, _, rfl, kn, _, rfl, DPut.k (k := Sum.inr y) hk4 (sz_lt' (by omega)), ?_⟩
      have f5 : Fr (cI p) H (upd (upd H3 p (.ins C dx (fl2 (k + i + 1)))) kn (.dK (putK kv2 (Sum.inr y) (.str (nmS (k + i)))))) := f4.fresh hkn
      have hp5 : (upd (upd H3 p (.ins C dx (fl2 (k + i + 1)))) kn (.dK (putK kv2 (Sum.inr y) (.str (nmS (k + i)))))) p = some (.ins C dx (fl2 (k + i + 1))) := by rw [upd_ne nkp.symm]; exact upd_same
      have hk5 : (upd (upd H3 p (.ins C dx (fl2 (k + i + 1)))) kn (.dK (putK kv2 (Sum.inr y) (.str (nmS (k + i)))))) kn = some (.dK (putK kv2 (Sum.inr y) (.str (nmS (k + i))))) := upd_same
      have hL5 : (upd (upd H3 p (.ins C dx (fl2 (k + i + 1)))) kn (.dK (putK kv2 (Sum.inr y) (.str (nmS (k + i)))))) L = some (.lst ((nms k i).map V.str)) := by rw [upd_ne nkL.symm]; exact hL4
      generalize (upd (upd H3 p (.ins C dx (fl2 (k + i + 1)))) kn (.dK (putK kv2 (Sum.inr y) (.str (nmS (k + i)))))) = H5 at f5 hp5 hk5 hL5 ⊢
      have rel5 := rel3.put y (nmS (k + i))
      have eg : valV (putK kv2 (Sum.inr y) (.str (nmS (k + i)))) (Sum.inr y) = some (.str (nmS (k + i))) := by rw [rel5 y]; unfold putN; rw [if_pos rfl]; rfl
      refine ⟨_, rfl, .inl ⟨rfl, _, SqL.of hL5⟩, _, rfl, _, rfl, kn, _, rfl, .inl ⟨_, Sum.inr y, .inl hk5, rfl, eg.symm⟩, ?_⟩
      refine ⟨L, _, _, rfl, rfl, hL5, sz_lt' (by rw [List.length_map, nms_len]; omega), ?_⟩
      have pk := putK_le kv2 (Sum.inr y) (.str (nmS (k + i)))
      refine ⟨_, _, rfl, f5.fresh hL0, by rw [upd_ne nLp.symm]; exact hp5, by rw [upd_ne nkL]; exact hk5, ?_, by omega, ?_⟩
      · rw [take_more hy, bindN_snoc, List.length_take, show min i ps.length = i by omega]
        exact rel5
      · rw [upd_same, nms_snoc, List.map_append]; rfl
    · rintro σ H3 ⟨s7, kv2, rfl, f3, hp3, hk3, rel3, l3, hL3⟩
      rw [List.length_map] at hp3 rel3 l3 hL3
      rw [List.take_length] at rel3
      have hTf := f3.sqT hT3
      refine ⟨_, rfl, t, _, _, _, rfl, rfl, hTf, rfl, _, rfl, L, _, rfl, .inl ⟨SqL.of hL3, fun tq htq => ?_⟩⟩
      have g1 : Fr c0 H3 (upd H3 tq (.tup ((nms k ps.length).map V.str))) := Fr.new htq
      have hq1 : (upd H3 tq (.tup ((nms k ps.length).map V.str))) tq = some (.tup ((nms k ps.length).map V.str)) := upd_same
      have hp4 := g1.at hp3 (fun z => z)
      have hk4 := g1.at hk3 (fun z => z)
      have f4 := f3.trans (Fr.of0 g1)
      generalize (upd H3 tq (.tup ((nms k ps.length).map V.str))) = H4 at g1 hq1 hp4 hk4 f4 ⊢
      refine ⟨_, rfl, p, dx, _, rfl, hp4, fl2_no _ (by decide +kernel), _, rfl, t, _, _, _, rfl, rfl, f4.sqT hT3, rfl, _, rfl, p, dx, va, kn, a, ns ++ ps, fs, bindN ν ps k, kv2, k + ps.length, rfl, hp4, Dp.fr f4 _ _ (tup_enc a) da, hk4, ⟨rel3, h5, dom_bind ps ns ν k O.dom, by omega, by omega, by omega, l3⟩, fun v1 H5 f5 hp5 d5 => ?_⟩
      have f05 := f4.trans f5
      refine ⟨_, rfl, p, dx, _, rfl, hp5, fl2_no _ (by decide +kernel), _, rfl, t, _, _, _, rfl, rfl, f05.sqT hT3, rfl, _, rfl, p, dx, vb, an, b, ns, _, ν, kvs, k + ps.length + a.bn, rfl, hp5, Dp.fr f05 _ _ (tup_enc b) db, f05.at hn (nan _), ⟨O.rel, h6, O.dom, by omega, by omega, by omega, by omega⟩, fun v2 H6 f6 hp6 d6 => ?_⟩
      refine ⟨one_sz (by show 5 ≤ 1000; decide), fun u hu => ?_⟩
      have g7 : Fr c0 H6 (upd H6 u (.tup [.str "fun", .str f, .ref tq, v1, v2])) := Fr.new hu
      refine q _ _ ((f05.trans f6).trans (Fr.of0 g7)) (g7.at (by rw [show k + (ps.length + (a.bn + b.bn)) = k + ps.length + a.bn + b.bn by omega]; exact hp6) (fun z => z)) ?_
      simp only [apM, Part.enc]
      exact .tup (SqT.of upd_same) (.cons (.str _) (.cons (.str _) (.cons (.tup (((f5.trans f6).trans (Fr.of0 g7)).sqT (SqT.of hq1)) (DpAll.strs _)) (.cons (Dp.fr (f6.trans (Fr.of0 g7)) _ _ (tup_enc _) d5) (.cons (Dp.fr g7 _ _ (tup_enc _) d6) .nil)))))
  | call f as =>
    obtain ⟨t', ta, ws, e, hT3, hA, da⟩ := inv_call hd
    cases e
    have ho := O.ok
    simp only [Part.ok] at ho
    simp only [Part.dep] at o1
    simp only [Part.wid] at o2
    simp only [Part.bn] at o3 q
    refine ⟨_, rfl, rfl, _, rfl, ifF (by kernel_rfl) ?_⟩
    refine ⟨_, rfl, rfl, _, rfl, ifF (by kernel_rfl) ?_⟩
    refine ⟨_, rfl, rfl, _, rfl, ifF (by kernel_rfl) ?_⟩
    refine ⟨_, rfl, rfl, _, rfl, ifT (by kernel_rfl) ?_⟩
    refine ⟨_, rfl, t, _, _, _, rfl, rfl, hT3, rfl, _, rfl, t, _, _, _, rfl, rfl, hT3, rfl, ta, rfl, ⟨ws, hA⟩, ?_⟩
    refine made_lc (n := n) (l := as.list) (ns := ns) (fs := fs) (ν := ν) (fun x H' Q' h => ?_) hA da hp hn (fun q' hq j hj hk => ?_) (by rw [Parts.list_len]; omega) fun D vs H3 hD eD dD f3 hp3 => ?_
    · obtain ⟨p', dx', v', an', pt', ns', fs', ν', kvs', k', e, h1, h2⟩ := h
      cases e
      exact ⟨_, rfl, p, dx', _, rfl, h1, fl2_no _ (by decide +kernel), _, rfl, _, rfl, p, dx', x, an, pt', ns', fs', ν', kvs', k', rfl, h1, h2⟩
    · have e1 := dep_list as q' hq
      have e2 := wid_list as q' hq
      rw [bnL_list] at hj
      exact ⟨O.rel, parts_in ho.2 q' hq, O.dom, by omega, by omega, by omega, by omega⟩
    · rw [bnL_list] at hp3
      refine ⟨D, _, rfl, .inl ⟨SqL.of eD, fun t3 ht3 => ?_⟩⟩
      have f4 : Fr c0 H3 (upd H3 t3 (.tup vs)) := Fr.new ht3
      refine ⟨one_sz (by show 3 ≤ 1000; decide), fun u hu => ?_⟩
      have f5 : Fr c0 (upd H3 t3 (.tup vs)) (upd (upd H3 t3 (.tup vs)) u (.tup [.str "call", .str f, .ref t3])) := Fr.new hu
      have f35 := f4.trans f5
      refine q _ _ (f3.trans (Fr.of0 f35)) (f35.at hp3 (fun z => z)) ?_
      rw [apI_enc]
      refine .tup (SqT.of upd_same) (.cons (.str _) (.cons (.str _) (.cons (.tup (SqT.of (f5.tup upd_same)) (Dp.frs f35 _ _ (tupDs_all fun d hd => ?_) dD)) .nil)))
      obtain ⟨q, _, rfl⟩ := List.mem_map.mp hd
      exact tup_enc q
  | num m =>
    obtain ⟨t', e, hT3⟩ := inv_num hd
    cases e
    refine ⟨_, rfl, rfl, _, rfl, ifF (by kernel_rfl) ?_⟩
    refine ⟨_, rfl, rfl, _, rfl, ifF (by kernel_rfl) ?_⟩
    refine ⟨_, rfl, rfl, _, rfl, ifF (by kernel_rfl) ?_⟩
    refine ⟨_, rfl, rfl, _, rfl, ifF (by kernel_rfl) ?_⟩
    refine ⟨_, rfl, one_sz (by show 1 ≤ 1000; decide), fun t1 ht1 => ?_⟩
    have f1 : Fr c0 H (upd H t1 (.tup [.str (Part.num m).word])) := Fr.new ht1
    have hT1 : (upd H t1 (.tup [.str (Part.num m).word])) t1 = some (.tup [.str "num"]) := upd_same
    have hTt := f1.sqT hT3
    have hp1 := f1.at hp (fun z => z)
    have ew : (Part.num m).word = "num" := rfl
    generalize (upd H t1 (.tup [.str (Part.num m).word])) = H1 at f1 hT1 hTt hp1 ⊢
    refine ⟨_, rfl, _, rfl, t, _, rfl, hTt, (fun z => absurd z.1 (by rw [show HT.sIx [V.str "num", V.int m].length 0 (some 1) = 1 from rfl]; decide)), fun t2 ht2 => ?_⟩
    rw [show cutV [V.str "num", V.int m] (some 1) none = [.int m] from rfl]
    have f2 : Fr c0 H1 (upd H1 t2 (.tup [.int m])) := Fr.new ht2
    have f12 := f1.trans f2
    refine ⟨t2, rfl, ⟨[.int m], SqT.of upd_same⟩, ?_⟩
    refine lcJ_tup (K := K) (C := c0) (I := fun _ _ => True) (Good := fun i d => d = .int m) (xs := [.int m]) (SqT.of upd_same) (fun _ _ _ _ _ _ _ => trivial) (fun _ _ _ z => z) trivial (by show 1 ≤ 100000; decide) ?_ ?_
    · intro i x hx H' f' _ Q' hQ'
      have ex : x = .int m := by
        match i, hx with
        | 0, hx => exact (Option.some.inj hx).symm
      subst ex
      exact ⟨_, rfl, rfl, _, rfl, ifT (by kernel_rfl) ⟨_, rfl, hQ' _ _ _ rfl rfl (.int m) (Fr.refl _) trivial⟩⟩
    · intro D vs ds H3 hD eD dD ld gd f3 _
      have ed : ds = [.int m] := by
        match ds, ld, gd with
        | [d], _, gd => rw [(gd 0 d rfl).1]
      subst ed
      have ev : vs = [.int m] := by
        cases dD with
        | cons a b => cases a; cases b; rfl
      subst ev
      refine ⟨D, _, rfl, .inl ⟨SqL.of eD, fun t3 ht3 => ?_⟩⟩
      have f4 : Fr c0 H3 (upd H3 t3 (.tup [.int m])) := Fr.new ht3
      have hT4 : (upd H3 t3 (.tup [.int m])) t1 = some (.tup [.str "num"]) := (f3.trans f4).tup (f2.tup hT1)
      refine ⟨t1, t3, _, _, rfl, rfl, SqT.of hT4, SqT.of upd_same, (fun z => by cases z), one_sz (by show 2 ≤ 1000; decide), (fun z => by cases z), fun _ t5 ht5 => ?_⟩
      have f5 : Fr c0 (upd H3 t3 (.tup [.int m])) (upd (upd H3 t3 (.tup [.int m])) t5 (.tup ([.str "num"] ++ [.int m]))) := Fr.new ht5
      have f05 := ((f12.trans f3).trans f4).trans f5
      refine q _ _ (Fr.of0 f05) (f05.at hp (fun z => z)) ?_
      simp only [apM, Part.enc]
      exact .tup (SqT.of upd_same) (.cons (.str _) (.cons (.int _) .nil))
  | add a b =>
    refine ⟨_, rfl, rfl, _, rfl, ifF (by kernel_rfl) ?_⟩
    refine ⟨_, rfl, rfl, _, rfl, ifF (by kernel_rfl) ?_⟩
    refine ⟨_, rfl, rfl, _, rfl, ifF (by kernel_rfl) ?_⟩
    refine ⟨_, rfl, rfl, _, rfl, ifF (by kernel_rfl) ?_⟩
    exact tail rfl
  | less a b =>
    refine ⟨_, rfl, rfl, _, rfl, ifF (by kernel_rfl) ?_⟩
    refine ⟨_, rfl, rfl, _, rfl, ifF (by kernel_rfl) ?_⟩
    refine ⟨_, rfl, rfl, _, rfl, ifF (by kernel_rfl) ?_⟩
    refine ⟨_, rfl, rfl, _, rfl, ifF (by kernel_rfl) ?_⟩
    exact tail rfl
  | ite c a b =>
    refine ⟨_, rfl, rfl, _, rfl, ifF (by kernel_rfl) ?_⟩
    refine ⟨_, rfl, rfl, _, rfl, ifF (by kernel_rfl) ?_⟩
    refine ⟨_, rfl, rfl, _, rfl, ifF (by kernel_rfl) ?_⟩
    refine ⟨_, rfl, rfl, _, rfl, ifF (by kernel_rfl) ?_⟩
    exact tail rfl
  | say a =>
    refine ⟨_, rfl, rfl, _, rfl, ifF (by kernel_rfl) ?_⟩
    refine ⟨_, rfl, rfl, _, rfl, ifF (by kernel_rfl) ?_⟩
    refine ⟨_, rfl, rfl, _, rfl, ifF (by kernel_rfl) ?_⟩
    refine ⟨_, rfl, rfl, _, rfl, ifF (by kernel_rfl) ?_⟩
    exact tail rfl
/-! ### apart -/
def spApart (K : PySem.W.Frag) : Sp := fun vs H Q _ => ∃ (v : V) (ins : List Str) (p : Part), vs = [v] ∧ Dp K H v (encP ins p) ∧ ProgOk ins p ∧ ∀ v' H', Fr c0 H H' → Dp K H' v' (encP (apI ins) (apP ins p)) → Q v' H'
theorem bindN_at : ∀ {ps : List Str} {ν : NuE} {k i : Nat} {x : Str}, ps.Nodup → ps[i]? = some x → bindN ν ps k x = some (nmS (k + i))
  | p :: r, ν, k, 0, x, nd, h => by
    have e : p = x := by simpa using h
    subst e
    rw [bindN, bindN_out r _ _ (List.nodup_cons.mp nd).1]; exact if_pos rfl
  | p :: r, ν, k, i + 1, x, nd, h => by
    rw [bindN, bindN_at (List.nodup_cons.mp nd).2 (by simpa using h), show k + 1 + i = k + (i + 1) by omega]
def t_apart (K : PySem.W.Frag) (cNam : Addr) : TS :=
  (tSeq (tDrop (tCall (spCheckP K) [] C8.E0 (tCons (tVar 0) tNil)))
    (tSeq (tAsg (tMake cNam (spNmInit cNam) [] C8.E0 tNil) (gName 1))
    (tSeq (tAsg tDNewK (gName 2))
    (tSeq (tFor (iTup K (tOp (rIxT K) (tVar 0) (tC (.int 0)))) (gName 3) (sDPut (tVar 2) (tVar 3) (tMeth cNam "fresh" (spFresh K cNam) [] C8.E0 (tVar 1) tNil)))
    (tSeq (tAsg (tCB (rTupSq K) (tCons (tLc (iTup K (tOp (rIxT K) (tVar 0) (tC (.int 0)))) (gName 3) tYes (tDGet (tVar 2) (tVar 3)) [3]) tNil)) (gName 4))
    (tRet (tTup (tCons (tVar 4) (tCons (tMeth cNam "made" (spMade K cNam 20) [] C8.E0 (tVar 1) (tCons (tOp (rIxT K) (tVar 0) (tC (.int 1))) (tCons (tVar 2) tNil))) tNil)))))))))
theorem pure_apart {K : PySem.W.Frag} {C : Addr} (vs : List V) (H : Hp) (Q : VK) (E : XK) (h : spApart K vs H Q E) :
    t_apart K C { nx := fun _ H' => Q .non H', rt := Q } (start ["program", "namer", "names", "name", "inputs"] vs) H := by
  obtain ⟨v, ins, pt, rfl, hd, O, q⟩ := h
  obtain ⟨t, ti, vp, rfl, hT, hI, dp⟩ := inv_P hd
  refine ⟨_, rfl, .ref t, ins, pt, rfl, hd, O, fun H0 f0 => ?_⟩
  refine fun p dx np ndx ned => ⟨p, dx, rfl, upd_same, rfl, ?_⟩
  have f1 : Fr c0 H0 (upd (upd (upd H0 dx (.own p)) p (.ins C dx [])) p (.ins C dx (fl2 0))) := ((Fr.new ndx).trans (Fr.new (by rw [upd_ne ned.symm]; exact np))).fresh np
  have hp1 : (upd (upd (upd H0 dx (.own p)) p (.ins C dx [])) p (.ins C dx (fl2 0))) p = some (.ins C dx (fl2 0)) := upd_same
  generalize (upd (upd (upd H0 dx (.own p)) p (.ins C dx [])) p (.ins C dx (fl2 0))) = H1 at f1 hp1 ⊢
  have f01 := f0.trans f1
  refine fun an han => ?_
  have f2 : Fr c0 H1 (upd H1 an (.dK [])) := Fr.new han
  have hn2 : (upd H1 an (.dK [])) an = some (.dK []) := upd_same
  have hp2 := f2.at hp1 (fun z => z)
  have nap : an ≠ p := fun z => by rw [z, hp1] at han; cases han
  have han0 : H0 an = none := f1.free _ han
  generalize (upd H1 an (.dK [])) = H2 at f2 hn2 hp2 ⊢
  have f12 := f1.trans f2
  have f02 := f01.trans f2
  refine ⟨_, rfl, t, _, _, _, rfl, rfl, f02.sqT hT, rfl, ti, rfl, ⟨_, f02.sqT hI⟩, ?_⟩
  have il := O.il
  refine for_tup (K := K) (a := ti) (xs := ins.map V.str) (fun i σ H' => ∃ s3 kv2, σ = [some (.ref t), some (.ref p), some (.ref an), s3, none] ∧ Fr c0 H0 H' ∧ H' p = some (.ins C dx (fl2 i)) ∧ H' an = some (.dK kv2) ∧ NRel kv2 (bindN (fun _ => none) (ins.take i) 0) ∧ kv2.length ≤ i)
    ⟨_, [], rfl, f12, hp2, hn2, fun _ => rfl, Nat.le_refl _⟩ (fun i σ H' _ ⟨_, _, _, f', _⟩ => (f0.trans f').sqT hI) ?_ ?_
  · rintro i x σ H3 hx ⟨s3, kv2, rfl, f3, hp3, hk3, rel3, l3⟩
    obtain ⟨y, hy, rfl⟩ := map_at hx
    have hi := at_lt hy
    refine ⟨_, rfl, p, dx, _, rfl, hp3, fl2_no _ (by decide +kernel), p, dx, i, rfl, hp3, by omega, ?_⟩
    have hk4 : (upd H3 p (.ins C dx (fl2 (i + 1)))) an = some (.dK kv2) := by rw [upd_ne nap]; exact hk3
    refine ⟨_, rfl, _, rfl, an, _, rfl, DPut.k (k := Sum.inr y) hk4 (sz_lt' (by omega)), ?_⟩
    have pk := putK_le kv2 (Sum.inr y) (.str (nmS i))
    refine ⟨_, _, rfl, (f3.fresh np).fresh han0, by rw [upd_ne nap.symm]; exact upd_same, upd_same, ?_, by omega⟩
    have rel5 := rel3.put y (nmS i)
    rw [take_more hy, bindN_snoc, List.length_take, show 0 + min i ins.length = i by omega]
    exact rel5
  · rintro σ H3 ⟨s3, kv2, rfl, f3, hp3, hk3, rel3, l3⟩
    rw [List.length_map] at hp3 rel3 l3
    rw [List.take_length] at rel3
    have f03 := f0.trans f3
    refine ⟨_, rfl, t, _, _, _, rfl, rfl, f03.sqT hT, rfl, ti, rfl, ⟨_, f03.sqT hI⟩, ?_⟩
    refine lcJ_tup (K := K) (C := c0) (I := fun _ _ => True) (Good := fun i d => i < ins.length ∧ d = .str (nmS i)) (xs := ins.map V.str) (f03.sqT hI) (fun _ _ _ _ _ _ _ => trivial) (fun _ _ _ z => z) trivial (by rw [List.length_map]; omega) ?_ ?_
    · intro i x hx H' f' _ Q' hQ'
      obtain ⟨y, hy, rfl⟩ := map_at hx
      have hi := at_lt hy
      have e := bindN_at (ν := fun _ => none) (k := 0) O.nd hy
      rw [Nat.zero_add] at e
      exact ⟨_, rfl, _, rfl, an, .str (nmS i), rfl, .inl ⟨kv2, Sum.inr y, .inl (f'.at hk3 (fun z => z)), rfl, by rw [rel3 y, e]; rfl⟩, hQ' _ _ _ ⟨hi, rfl⟩ rfl (.str _) (Fr.refl _) trivial⟩
    · intro D vs ds H4 hD eD dD ld gd f4 _
      rw [List.length_map] at ld
      have ed : ds = (apI ins).map PyData.str := by
        refine List.ext_getElem? fun j => ?_
        by_cases hj : j < ins.length
        · obtain ⟨d, hd⟩ := get_lt (l := ds) (i := j) (by omega)
          rw [hd, (gd j d hd).1.2, List.getElem?_map, nms_get hj, Nat.zero_add]; rfl
        · rw [List.getElem?_eq_none (by omega), List.getElem?_eq_none (by rw [List.length_map, nms_len]; omega)]
      subst ed
      have ev := dD.strs_inv
      subst ev
      refine ⟨D, _, rfl, .inl ⟨SqL.of eD, fun tq htq => ?_⟩⟩
      have g5 : Fr c0 H4 (upd H4 tq (.tup ((apI ins).map V.str))) := Fr.new htq
      have hq5 : (upd H4 tq (.tup ((apI ins).map V.str))) tq = some (.tup ((apI ins).map V.str)) := upd_same
      have f35 := f4.trans g5
      have hp5 := f35.at hp3 (fun z => z)
      have hk5 := f35.at hk3 (fun z => z)
      generalize (upd H4 tq (.tup ((apI ins).map V.str))) = H5 at g5 hq5 f35 hp5 hk5 ⊢
      have f05 := f03.trans f35
      have od := O.dep
      have ow := O.wid
      have ob := ap_bn O
      refine ⟨_, rfl, _, rfl, p, dx, _, rfl, hp5, fl2_no _ (by decide +kernel), _, rfl, t, _, _, _, rfl, rfl, f05.sqT hT, rfl, _, rfl, p, dx, vp, an, pt, ins, (fun _ => none), nu0 ins, kv2, ins.length, rfl, hp5, Dp.fr f05 _ _ (tup_enc pt) dp, hk5, ⟨rel3, O.ok, fun x hx => ?_, by omega, by omega, by omega, l3⟩, fun v1 H6 f6 hp6 d6 => ?_⟩
      · obtain ⟨i, u, _, _, e, _⟩ := bindN_in (ν := fun _ => none) (k := 0) (vs := ins.map fun _ => 0) O.nd hx (by simp)
        rw [show nu0 ins x = _ from e]; rfl
      · refine ⟨one_sz (by show 2 ≤ 1000; decide), fun u hu => ?_⟩
        have g7 : Fr c0 H6 (upd H6 u (.tup [.ref tq, v1])) := Fr.new hu
        have hid : Fr c0 H0 H6 := (f3.trans f35).hide0 np f6
        refine q _ _ ((f0.trans hid).trans g7) ?_
        exact .tup (SqT.of upd_same) (.cons (.tup ((f6.trans (Fr.of0 g7)).sqT (SqT.of hq5)) (DpAll.strs _)) (.cons (Dp.fr g7 _ _ (tup_enc _) d6) .nil))
end BN
namespace BN
open PySem L2 PyProof.Rows
/-! ### what is new -/
def NewH (H H' : Hp) : Hp := fun a => if H a = none then H' a else none
def delH (H : Hp) (D : Addr) : Hp := fun a => if a = D then none else H a
theorem Fr.sub {H H' : Hp} (h : ∀ a o, H a = some o → H' a = some o) : Fr c0 H H' := ⟨fun a o e _ => h a o e, fun a e => by
  cases q : H a with
  | none => rfl
  | some o => rw [h a o q] at e; cases e⟩
theorem NewH.sub {H H' : Hp} : Fr c0 (NewH H H') H' := Fr.sub fun a o e => by
  unfold NewH at e
  split at e
  · exact e
  · cases e
theorem NewH.at_ {H H' : Hp} {a : Addr} {o : HO} (h : H a = none) (e : H' a = some o) : NewH H H' a = some o := by
  unfold NewH; rw [if_pos h]; exact e
theorem NewH.mono {H0 H H' H2 : Hp} (f0 : Fr c0 H0 H) (f : Fr c0 H' H2) : Fr c0 (NewH H H') (NewH H0 H2) := Fr.sub fun a o e => by
  unfold NewH at e
  split at e
  · rename_i hn
    exact NewH.at_ (f0.free a hn) (f.at e (fun z => z))
  · cases e
/-! ### a comprehension of new data -/
structure LcN (K : PySem.W.Frag) (D : Addr) (H1 : Hp) (Good : Nat → PyData → Prop) (i : Nat) (H' : Hp) : Prop where
  ex : ∃ (vs : List V) (ds : List PyData), H' D = some (.lst vs) ∧ DpAll K (delH (NewH H1 H') D) vs ds ∧ ds.length = i ∧ (∀ k d, ds[k]? = some d → Good k d) ∧ Fr c0 H1 H'
theorem LcN.step {K : PySem.W.Frag} {D : Addr} {H1 H' H'' : Hp} {Good : Nat → PyData → Prop} {i : Nat} (hD : H1 D = none) (hi : i < 100000) (L : LcN K D H1 Good i H') {d : PyData} {y : V} (g : Good i d) (hd : Dp K (NewH H' H'') y d) (f : Fr c0 H' H'') :
    ∃ acc, H'' D = some (.lst acc) ∧ acc.length < sizeLine ∧ LcN K D H1 Good (i + 1) (upd H'' D (.lst (acc ++ [y]))) := by
  obtain ⟨vs, ds, e, da, dl, dg, df⟩ := L.ex
  have e2 := f.at e (fun z => z)
  have s1 : Fr c0 (delH (NewH H1 H') D) (delH (NewH H1 (upd H'' D (.lst (vs ++ [y])))) D) := Fr.sub fun a o q => by
    unfold delH at q ⊢
    split at q
    · cases q
    · rename_i hne
      rw [if_neg hne]
      unfold NewH at q ⊢
      split at q
      · rename_i hn
        rw [if_pos hn, upd_ne hne]; exact f.at q (fun z => z)
      · cases q
  have s2 : Fr c0 (NewH H' H'') (delH (NewH H1 (upd H'' D (.lst (vs ++ [y])))) D) := Fr.sub fun a o q => by
    unfold NewH at q
    split at q
    · rename_i hn
      have hne : a ≠ D := fun z => by rw [z, e] at hn; cases hn
      unfold delH NewH
      rw [if_neg hne, if_pos (df.free a hn), upd_ne hne]; exact q
    · cases q
  refine ⟨vs, e2, ?_, vs ++ [y], ds ++ [d], upd_same, (Dp.sms s1 _ _ da).append (.cons (Dp.sm s2 _ _ hd) .nil), by rw [List.length_append, dl]; rfl, ?_, (df.trans f).fresh hD⟩
  · rw [da.len, dl]
    exact Nat.lt_of_lt_of_le hi (by rw [sizeLine_eq]; decide)
  · intro k x hk
    by_cases hlt : k < ds.length
    · rw [List.getElem?_append_left hlt] at hk
      exact dg k x hk
    · rw [List.getElem?_append_right (by omega)] at hk
      have : k - ds.length = 0 := by
        cases q : k - ds.length with
        | zero => rfl
        | succ m => rw [q] at hk; simp at hk
      rw [this] at hk
      have e : d = x := by simpa using hk
      subst e
      have : k = i := by omega
      subst this
      exact g
theorem lcN_list {K : PySem.W.Frag} {H1 : Hp} {Good : Nat → PyData → Prop} {te : TE} {σ : L2.St} {j : Nat} {Q : Addr → Hp → Prop} {a : Addr} {xs : List V} (hx : SqL K H1 a xs) (hn : xs.length ≤ 100000)
    (hte : ∀ i x, xs[i]? = some x → ∀ H', Fr c0 H1 H' → ∀ Q : VK, (∀ d v H'', Good i d → Dp K (NewH H' H'') v d → Fr c0 H' H'' → Q v H'') → te ((wipe σ [j]).set j (some x)) H' Q)
    (hq : ∀ D vs ds H', H1 D = none → H' D = some (.lst vs) → DpAll K (NewH H1 H') vs ds → ds.length = xs.length → (∀ k d, ds[k]? = some d → Good k d) → Fr c0 H1 H' → Q D H') : ∀ D, H1 D = none →
    ∃ W : Nat → Nat → Hp → Prop, (∃ m, W 0 m (upd H1 D (.lst []))) ∧ ∀ i m H, W i m H →
      ((Itl K a).stop i H ∧ Q D H) ∨ ((Itl K a).go i H ∧ ∃ Nx : Hp → Prop, (∀ H', Nx H' → ∃ m', m' < m ∧ W (i + 1) m' H') ∧ ∀ x H', (Itl K a).yld i H x H' → gName j x (wipe σ [j]) H' fun σ2 H2 => wipe σ2 [j] = wipe σ [j] ∧ tYes σ2 H2 fun b H3 =>
        if b = true then te σ2 H3 fun y H4 => ∃ acc, H4 D = some (.lst acc) ∧ acc.length < sizeLine ∧ Nx (upd H4 D (.lst (acc ++ [y]))) else Nx H3) := fun D hD => by
  refine lc_list (K := K) (a := a) (xs := xs) (Qd := fun H => Q D H) (LcN K D H1 Good) ⟨[], [], upd_same, .nil, rfl, fun k d h => by simp at h, Fr.new hD⟩ (fun i H' _ L => by
    obtain ⟨vs, ds, e, da, dl, dg, df⟩ := L.ex
    exact df.sqL (fun _ z => z) hx) (fun i x H' hi L => ⟨wipe1 _ _ _, ?_⟩) fun H' L => ?_
  · obtain ⟨vs, ds, e, da, dl, dg, df⟩ := L.ex
    have := at_lt hi
    exact hte i x hi H' df _ fun d v H'' g hd f => LcN.step hD (by omega) L g hd f
  · obtain ⟨vs, ds, e, da, dl, dg, df⟩ := L.ex
    refine hq D vs ds H' hD e (Dp.sms (Fr.sub fun a o q => ?_) _ _ da) dl dg df
    unfold delH at q
    split at q
    · cases q
    · exact q
/-! ### the law's bound -/
mutual
def bd : Part → List Str
  | .num _ => []
  | .name _ => []
  | .add a b => bd a ++ bd b
  | .less a b => bd a ++ bd b
  | .ite c a b => bd c ++ (bd a ++ bd b)
  | .say a => bd a
  | .lt x a b => x :: (bd a ++ bd b)
  | .fn _ ps b r => ps ++ (bd b ++ bd r)
  | .call _ as => bds as
def bds : Parts → List Str
  | .nil => []
  | .cons p r => bd p ++ bds r
end
def bdH : Part → List Str
  | .lt x _ _ => [x]
  | .fn _ ps _ _ => ps
  | _ => []
theorem bds_list : ∀ as : Parts, bds as = as.list.flatMap bd
  | .nil => by simp [bds, Parts.list]
  | .cons p r => by simp [bds, Parts.list, bds_list r]
theorem bd_eq (p : Part) : bd p = bdH p ++ p.inner.flatMap bd := by
  cases p <;> simp [bd, bdH, Part.inner, bds_list]
mutual
theorem bd_len : ∀ p : Part, (bd p).length = p.bn
  | .num _ => rfl
  | .name _ => rfl
  | .add a b => by simp only [bd, Part.bn, List.length_append, bd_len a, bd_len b]
  | .less a b => by simp only [bd, Part.bn, List.length_append, bd_len a, bd_len b]
  | .ite c a b => by simp only [bd, Part.bn, List.length_append, bd_len c, bd_len a, bd_len b]
  | .say a => by simp only [bd, Part.bn, bd_len a]
  | .lt x a b => by simp only [bd, Part.bn, List.length_append, List.length_cons, bd_len a, bd_len b]; omega
  | .fn f ps b r => by simp only [bd, Part.bn, List.length_append, bd_len b, bd_len r]
  | .call f as => by simp only [bd, Part.bn, bds_len as]
theorem bds_len : ∀ as : Parts, (bds as).length = as.bn
  | .nil => rfl
  | .cons p r => by simp only [bds, Parts.bn, List.length_append, bd_len p, bds_len r]
end
mutual
theorem bd_ap : ∀ (p : Part) (ν : NuE) (k : Nat), List.Perm (bd (apM p ν k)) (nms k p.bn)
  | .num _, ν, k => .refl _
  | .name _, ν, k => .refl _
  | .add a b, ν, k => by simp only [apM, bd, Part.bn, nms_add]; exact (bd_ap a ν k).append (bd_ap b ν _)
  | .less a b, ν, k => by simp only [apM, bd, Part.bn, nms_add]; exact (bd_ap a ν k).append (bd_ap b ν _)
  | .ite c a b, ν, k => by simp only [apM, bd, Part.bn, nms_add]; exact (bd_ap c ν k).append ((bd_ap a ν _).append (bd_ap b ν _))
  | .say a, ν, k => by simp only [apM, bd, Part.bn]; exact bd_ap a ν k
  | .lt x a b, ν, k => by
    simp only [apM, bd, Part.bn, nms_add]
    have h := (bd_ap a ν k).append (bd_ap b (putN ν x (nmS (k + a.bn))) (k + a.bn + 1))
    refine (List.Perm.cons _ h).trans ?_
    show List.Perm (nmS (k + a.bn) :: (nms k a.bn ++ nms (k + a.bn + 1) b.bn)) (nms k a.bn ++ nmS (k + a.bn) :: nms (k + a.bn + 1) b.bn)
    exact List.perm_middle.symm
  | .fn f ps b r, ν, k => by simp only [apM, bd, Part.bn, nms_add]; exact (List.Perm.refl _).append ((bd_ap b _ _).append (bd_ap r _ _))
  | .call f as, ν, k => by simp only [apM, bd, Part.bn]; exact bds_ap as ν k
theorem bds_ap : ∀ (as : Parts) (ν : NuE) (k : Nat), List.Perm (bds (apMs as ν k)) (nms k as.bn)
  | .nil, ν, k => .refl _
  | .cons p r, ν, k => by simp only [apMs, bds, Parts.bn, nms_add]; exact (bd_ap p ν k).append (bds_ap r ν _)
end
theorem names_nodup (ins : List Str) (p : Part) : (apI ins ++ bd (apP ins p)).Nodup := by
  have h : List.Perm (apI ins ++ bd (apP ins p)) (nms 0 ins.length ++ nms ins.length p.bn) := (List.Perm.refl _).append (bd_ap p _ _)
  have e := nms_add ins.length p.bn 0
  rw [Nat.zero_add] at e
  rw [← e] at h
  exact h.nodup_iff.mpr (nms_nodup _ _)
def spLBound (K : PySem.W.Frag) (n : Nat) : Sp := fun vs H Q _ => ∃ (v : V) (pt : Part), vs = [v] ∧ Dp K H v pt.enc ∧ pt.dep ≤ n ∧ pt.wid ≤ 1000 ∧ pt.bn ≤ 100000 ∧
  ∀ D H', Fr c0 H H' → H D = none → H' D = some (.lst ((bd pt).map V.str)) → Q (.ref D) H'
def t_lbound (K : PySem.W.Frag) (n : Nat) : TS :=
  (tSeq (tAsg (tLst tNil) (gName 1))
    (tSeq (tIfS (tTest (tOp rEq (tOp (rIxT K) (tVar 0) (tC (.int 0))) (tC (.str "let")))) (tDrop (tBM K "list" rAppend (tVar 1) (tCons (tOp (rIxT K) (tVar 0) (tC (.int 1))) tNil))) tNext)
    (tSeq (tIfS (tTest (tOp rEq (tOp (rIxT K) (tVar 0) (tC (.int 0))) (tC (.str "fun")))) (tDrop (tBM K "list" rExtend (tVar 1) (tCons (tCB (rListSq K) (tCons (tOp (rIxT K) (tVar 0) (tC (.int 2))) tNil)) tNil))) tNext)
    (tSeq (tFor (iList K (tCall (spInner K) [] C8.E0 (tCons (tVar 0) tNil))) (gName 2) (tDrop (tBM K "list" rExtend (tVar 1) (tCons (tCall (spLBound K n) [] C8.E0 (tCons (tVar 2) tNil)) tNil))))
    (tRet (tVar 1))))))
theorem bn_inner (p : Part) : (p.inner.flatMap bd).length ≤ p.bn := by
  have h := congrArg List.length (bd_eq p)
  rw [List.length_append, bd_len] at h
  omega
theorem flat_take_len {α β : Type} (f : α → List β) (l : List α) (i : Nat) : ((l.take i).flatMap f).length ≤ (l.flatMap f).length := by
  have h := congrArg (fun z => (List.flatMap f z).length) (List.take_append_drop i l)
  simp only [List.flatMap_append, List.length_append] at h
  omega
theorem flat_mem_len {α β : Type} (f : α → List β) {l : List α} {x : α} (h : x ∈ l) : (f x).length ≤ (l.flatMap f).length := by
  induction l with
  | nil => cases h
  | cons a r ih =>
    rw [List.flatMap_cons, List.length_append]
    rcases List.mem_cons.mp h with rfl | h
    · omega
    · have := ih h; omega
theorem lbound_tail {K : PySem.W.Frag} {n : Nat} {pt : Part} {t L : Addr} {s2 : Option V} {H0 H1 : Hp} {Q : VK} (f0 : Fr c0 H0 H1) (hL0 : H0 L = none) (hd : Dp K H1 (.ref t) pt.enc) (hL : H1 L = some (.lst ((bdH pt).map V.str))) (o1 : pt.dep ≤ n + 1) (o2 : pt.wid ≤ 1000) (o3 : pt.bn ≤ 100000)
    (q : ∀ D H', Fr c0 H0 H' → H0 D = none → H' D = some (.lst ((bd pt).map V.str)) → Q (.ref D) H') :
    (tSeq (tFor (iList K (tCall (spInner K) [] C8.E0 (tCons (tVar 0) tNil))) (gName 2) (tDrop (tBM K "list" rExtend (tVar 1) (tCons (tCall (spLBound K n) [] C8.E0 (tCons (tVar 2) tNil)) tNil))))
      (tRet (tVar 1))) { nx := fun _ H' => Q .non H', rt := Q } [some (.ref t), some (.ref L), s2] H1 := by
  refine ⟨_, rfl, .ref t, pt, rfl, hd, fun D ws H2 f1 hD0 e da => ⟨D, rfl, ⟨ws, SqL.of e⟩, ?_⟩⟩
  have hL2 := f1.at hL (fun z => z)
  have nDL : L ≠ D := fun z => by rw [z] at hL; rw [hL] at hD0; cases hD0
  refine for_list (K := K) (a := D) (xs := ws) (fun i σ H' => ∃ u, σ = [some (.ref t), some (.ref L), u] ∧ Fr (fun a _ => a = L) H2 H' ∧ Fr c0 H0 H' ∧ H' L = some (.lst ((bdH pt ++ (pt.inner.take i).flatMap bd).map V.str)))
    ⟨_, rfl, Fr.refl _, f0.trans f1, by simpa using hL2⟩ (fun i σ H' _ ⟨_, _, f', _⟩ => SqL.of (f'.at e (fun z => nDL z.symm))) ?_ ?_
  · rintro i x σ H3 hi ⟨u, rfl, f3, f03, hL3⟩
    obtain ⟨dd, hdd, Dx⟩ := da.getV hi
    obtain ⟨q', hq, rfl⟩ := map_at hdd
    have hm := List.mem_of_getElem? hq
    have h1 := dep_inner pt q' hm
    have h2 := wid_inner pt q' hm
    have h3 := bn_inner pt
    have h4 := flat_mem_len bd hm
    have h5 := flat_take_len bd pt.inner i
    have h6 := bd_eq pt
    have h7 := congrArg List.length h6
    rw [List.length_append, bd_len] at h7
    rw [bd_len] at h4
    refine ⟨_, rfl, .inl ⟨rfl, _, SqL.of hL3⟩, ?_⟩
    refine ⟨_, rfl, x, q', rfl, Dp.fr f3 _ _ (tup_enc q') Dx, by omega, by omega, by omega, fun D2 H4 f4 hD2 eD2 => ?_⟩
    have hL4 := f4.at hL3 (fun z => z)
    refine ⟨L, D2, _, _, rfl, rfl, hL4, eD2, Nat.le_of_lt (sz_lt' (by rw [List.length_map, List.length_map, List.length_append, bd_len]; omega)), ?_⟩
    refine ⟨_, rfl, (f3.trans (Fr.of0 f4)).trans (Fr.set hL4 rfl trivial), (f03.trans f4).fresh hL0, ?_⟩
    rw [upd_same, flat_snoc hq, ← List.append_assoc, List.map_append (l₂ := bd q')]
  · rintro σ H3 ⟨u, rfl, f3, f03, hL3⟩
    have hl : ws.length = pt.inner.length := by rw [da.len, List.length_map]
    rw [hl, List.take_length, ← bd_eq] at hL3
    exact ⟨_, rfl, q L H3 f03 hL0 hL3⟩
theorem pure_lbound {K : PySem.W.Frag} {n : Nat} (vs : List V) (H : Hp) (Q : VK) (E : XK) (h : spLBound K (n + 1) vs H Q E) : t_lbound K n { nx := fun _ H' => Q .non H', rt := Q } (start ["part", "found", "one"] vs) H := by
  obtain ⟨v, pt, rfl, hd, o1, o2, o3, q⟩ := h
  obtain ⟨t, xs, rfl, hT, hx⟩ := inv_head hd
  refine ⟨one_sz (Nat.zero_le _), fun L hL => ?_⟩
  have f1 : Fr c0 H (upd H L (.lst [])) := Fr.new hL
  have hL1 : (upd H L (.lst [])) L = some (.lst []) := upd_same
  have hd1 := Dp.fr f1 _ _ (tup_enc pt) hd
  have hT1 := f1.sqT hT
  generalize (upd H L (.lst [])) = H1 at f1 hL1 hd1 hT1 ⊢
  cases pt
  case lt x a b =>
    obtain ⟨t', va, vb, e, hT3, da, db⟩ := inv_lt hd1
    cases e
    refine ⟨_, rfl, t, _, _, _, rfl, rfl, hT1, atI_nat (j := 0) rfl, rfl, _, rfl, ifT (by kernel_rfl) ?_⟩
    refine ⟨_, rfl, .inl ⟨rfl, _, SqL.of hL1⟩, _, rfl, t, _, _, _, rfl, rfl, hT3, rfl, L, _, _, rfl, rfl, hL1, sz_lt' (Nat.zero_le _), ?_⟩
    have f2 : Fr c0 H (upd H1 L (.lst ([] ++ [.str x]))) := f1.fresh hL
    have f12 : Fr (fun a _ => a = L) H1 (upd H1 L (.lst ([] ++ [.str x]))) := Fr.set hL1 rfl trivial
    refine ⟨_, rfl, t, _, _, _, rfl, rfl, f12.sqT hT1, atI_nat (j := 0) rfl, rfl, _, rfl, ifF (by kernel_rfl) ?_⟩
    exact lbound_tail (pt := .lt x a b) f2 hL (Dp.fr f12 _ _ (tup_enc _) hd1) upd_same o1 o2 o3 q
  case fn f ps b r =>
    obtain ⟨t', tp, va, vb, e, hT3, hTp, da, db⟩ := inv_fn hd1
    cases e
    refine ⟨_, rfl, t, _, _, _, rfl, rfl, hT1, atI_nat (j := 0) rfl, rfl, _, rfl, ifF (by kernel_rfl) ?_⟩
    refine ⟨_, rfl, t, _, _, _, rfl, rfl, hT1, atI_nat (j := 0) rfl, rfl, _, rfl, ifT (by kernel_rfl) ?_⟩
    refine ⟨_, rfl, .inl ⟨rfl, _, SqL.of hL1⟩, _, rfl, t, _, _, _, rfl, rfl, hT3, rfl, tp, _, rfl, .inr hTp, fun l hl => ?_⟩
    have f2 : Fr c0 H1 (upd H1 l (.lst (ps.map V.str))) := Fr.new hl
    have hL2 := f2.at hL1 (fun z => z)
    simp only [Part.wid] at o2
    refine ⟨L, l, _, _, rfl, rfl, hL2, upd_same, Nat.le_of_lt (sz_lt' (by rw [List.length_map]; show 0 + _ ≤ _; omega)), ?_⟩
    have f3 : Fr c0 H (upd (upd H1 l (.lst (ps.map V.str))) L (.lst ([] ++ ps.map V.str))) := (f1.trans f2).fresh hL
    have f13 : Fr (fun a _ => a = L) H1 (upd (upd H1 l (.lst (ps.map V.str))) L (.lst ([] ++ ps.map V.str))) := (Fr.of0 f2).trans (Fr.set hL2 rfl trivial)
    exact lbound_tail (pt := .fn f ps b r) f3 hL (Dp.fr f13 _ _ (tup_enc _) hd1) upd_same o1 (by simp only [Part.wid]; exact o2) o3 q
  all_goals
    refine ⟨_, rfl, t, _, _, _, rfl, rfl, hT1, atI_nat (j := 0) rfl, rfl, _, rfl, ifF (by kernel_rfl) ?_⟩
    refine ⟨_, rfl, t, _, _, _, rfl, rfl, hT1, atI_nat (j := 0) rfl, rfl, _, rfl, ifF (by kernel_rfl) ?_⟩
    exact lbound_tail f1 hL hd1 hL1 o1 o2 o3 q
/-! ### the law's shape -/
mutual
def shp : Part → PyData
  | .num n => .list [.str "num", .int n]
  | .name _ => .list [.str "name", .str "", .list []]
  | .add a b => .list [.str "add", .str "", .list [shp a, shp b]]
  | .less a b => .list [.str "less", .str "", .list [shp a, shp b]]
  | .ite c a b => .list [.str "if", .str "", .list [shp c, shp a, shp b]]
  | .say a => .list [.str "say", .str "", .list [shp a]]
  | .lt _ a b => .list [.str "let", .str "", .list [shp a, shp b]]
  | .fn f ps b r => .list [.str "fun", .str f, .int (ps.length : Int), .list [shp b, shp r]]
  | .call f as => .list [.str "call", .str f, .list (shps as)]
def shps : Parts → List PyData
  | .nil => []
  | .cons p r => shp p :: shps r
end
theorem shps_list : ∀ as : Parts, shps as = as.list.map shp
  | .nil => by simp [shps, Parts.list]
  | .cons p r => by simp [shps, Parts.list, shps_list r]
mutual
theorem shp_ap : ∀ (p : Part) (ν : NuE) (k : Nat), shp (apM p ν k) = shp p
  | .num _, ν, k => rfl
  | .name _, ν, k => rfl
  | .add a b, ν, k => by simp only [apM, shp, shp_ap a, shp_ap b]
  | .less a b, ν, k => by simp only [apM, shp, shp_ap a, shp_ap b]
  | .ite c a b, ν, k => by simp only [apM, shp, shp_ap c, shp_ap a, shp_ap b]
  | .say a, ν, k => by simp only [apM, shp, shp_ap a]
  | .lt x a b, ν, k => by simp only [apM, shp, shp_ap a, shp_ap b]
  | .fn f ps b r, ν, k => by simp only [apM, shp, shp_ap b, shp_ap r, nms_len]
  | .call f as, ν, k => by simp only [apM, shp, shps_ap as]
theorem shps_ap : ∀ (as : Parts) (ν : NuE) (k : Nat), shps (apMs as ν k) = shps as
  | .nil, ν, k => rfl
  | .cons p r, ν, k => by simp only [apMs, shps, shp_ap p, shps_ap r]
end
def spLShape (K : PySem.W.Frag) (n : Nat) : Sp := fun vs H Q _ => ∃ (v : V) (pt : Part), vs = [v] ∧ Dp K H v pt.enc ∧ pt.dep ≤ n ∧ pt.wid ≤ 1000 ∧
  ∀ v' H', Fr c0 H H' → Dp K (NewH H H') v' (shp pt) → Q v' H'
def t_lshape (K : PySem.W.Frag) (n : Nat) : TS :=
  (tSeq (tAsg (tOp (rIxT K) (tVar 0) (tC (.int 0))) (gName 1))
    (tSeq (tAsg (tLc (iList K (tCall (spInner K) [] C8.E0 (tCons (tVar 0) tNil))) (gName 3) tYes (tCall (spLShape K n) [] C8.E0 (tCons (tVar 3) tNil)) [3]) (gName 2))
    (tSeq (tIfS (tTest (tOp rEq (tVar 1) (tC (.str "num")))) (tRet (tLst (tCons (tVar 1) (tCons (tOp (rIxT K) (tVar 0) (tC (.int 1))) tNil)))) tNext)
    (tSeq (tIfS (tTest (tOp rEq (tVar 1) (tC (.str "fun")))) (tRet (tLst (tCons (tVar 1) (tCons (tOp (rIxT K) (tVar 0) (tC (.int 1))) (tCons (tCB (rLenSq K) (tCons (tOp (rIxT K) (tVar 0) (tC (.int 2))) tNil)) (tCons (tVar 2) tNil)))))) tNext)
    (tRet (tLst (tCons (tVar 1) (tCons (tIf (tTest (tOp rEq (tVar 1) (tC (.str "call")))) (tOp (rIxT K) (tVar 0) (tC (.int 1))) (tC (.str ""))) (tCons (tVar 2) tNil)))))))))
theorem pure_lshape {K : PySem.W.Frag} {n : Nat} (vs : List V) (H : Hp) (Q : VK) (E : XK) (h : spLShape K (n + 1) vs H Q E) : t_lshape K n { nx := fun _ H' => Q .non H', rt := Q } (start ["part", "word", "inner", "one"] vs) H := by
  obtain ⟨v, pt, rfl, hd, o1, o2, q⟩ := h
  obtain ⟨t, xs, rfl, hT, hx⟩ := inv_head hd
  refine ⟨_, rfl, t, _, _, _, rfl, rfl, hT, atI_nat (j := 0) rfl, ?_⟩
  refine ⟨_, rfl, .ref t, pt, rfl, hd, fun D0 ws H1 f1 hD0 e0 da => ⟨D0, rfl, ⟨ws, SqL.of e0⟩, ?_⟩⟩
  have lw : ws.length = pt.inner.length := by rw [da.len, List.length_map]
  have li := len_inner pt
  refine lcN_list (K := K) (Good := fun i d => ∃ q, pt.inner[i]? = some q ∧ d = shp q) (SqL.of e0) (by omega) ?_ ?_
  · intro i x hx' H' f' Q' hQ'
    obtain ⟨dd, hdd, Dx⟩ := da.getV hx'
    obtain ⟨q', hq, rfl⟩ := map_at hdd
    have hm := List.mem_of_getElem? hq
    have h1 := dep_inner pt q' hm
    have h2 := wid_inner pt q' hm
    exact ⟨_, rfl, x, q', rfl, Dp.fr f' _ _ (tup_enc q') Dx, by omega, by omega, fun v' H2 f2 d2 => hQ' _ _ _ ⟨q', hq, rfl⟩ d2 f2⟩
  · intro J vs ds H2 hJ eJ dJ ld gd f2
    have ed : ds = pt.inner.map shp := by
      refine List.ext_getElem? fun j => ?_
      by_cases hj : j < pt.inner.length
      · obtain ⟨d, hd⟩ := get_lt (l := ds) (i := j) (by omega)
        obtain ⟨q, hq1, hq2⟩ := gd j d hd
        rw [hd, hq2, List.getElem?_map, hq1]; rfl
      · rw [List.getElem?_eq_none (by omega), List.getElem?_eq_none (by rw [List.length_map]; omega)]
    subst ed
    have f12 := f1.trans f2
    have hd2 := Dp.fr f12 _ _ (tup_enc pt) hd
    have hT2 := f12.sqT hT
    have hJ0 := f1.free _ hJ
    have fin : ∀ (R : Addr) (us : List V) (es : List PyData), H2 R = none → (∀ H3, Fr c0 H2 H3 → H3 J = some (.lst vs) → DpAll K (NewH H H3) vs (pt.inner.map shp) → DpAll K (NewH H H3) us es) → shp pt = .list es → Q (.ref R) (upd H2 R (.lst us)) := fun R us es hR h3 hs => by
      have g : Fr c0 H2 (upd H2 R (.lst us)) := Fr.new hR
      have eJ3 := g.at eJ (fun z => z)
      refine q _ _ (f12.trans g) ?_
      rw [hs]
      exact .lst (SqL.of (NewH.at_ (f12.free _ hR) upd_same)) (h3 _ g eJ3 (Dp.sms (NewH.mono f1 g) _ _ dJ))
    have inn : ∀ {H3 : Hp}, Fr c0 H2 H3 → H3 J = some (.lst vs) → DpAll K (NewH H H3) vs (pt.inner.map shp) → Dp K (NewH H H3) (.ref J) (.list (pt.inner.map shp)) := fun {H3} f3 e3 d3 => .lst (SqL.of (NewH.at_ hJ0 e3)) d3
    cases pt
    case num m =>
      obtain ⟨t', e, hT3⟩ := inv_num hd2
      cases e
      refine ⟨_, rfl, rfl, _, rfl, ifT (by kernel_rfl) ?_⟩
      refine ⟨_, rfl, _, rfl, t, _, _, _, rfl, rfl, hT3, rfl, one_sz (by show 2 ≤ 1000; decide), fun R hR => ?_⟩
      exact fin R _ _ hR (fun H3 f3 e3 d3 => .cons (.str _) (.cons (.int _) .nil)) rfl
    case fn f ps b r =>
      obtain ⟨t', tp, va, vb, e, hT3, hTp, da, db⟩ := inv_fn hd2
      cases e
      refine ⟨_, rfl, rfl, _, rfl, ifF (by kernel_rfl) ?_⟩
      refine ⟨_, rfl, rfl, _, rfl, ifT (by kernel_rfl) ?_⟩
      refine ⟨_, rfl, _, rfl, t, _, _, _, rfl, rfl, hT3, rfl, _, rfl, t, _, _, _, rfl, rfl, hT3, rfl, tp, _, rfl, .inr hTp, _, rfl, one_sz (by show 4 ≤ 1000; decide), fun R hR => ?_⟩
      exact fin R _ _ hR (fun H3 f3 e3 d3 => .cons (.str _) (.cons (.str _) (.cons (.int _) (.cons (inn f3 e3 d3) .nil)))) (by rw [List.length_map]; rfl)
    case call f as =>
      obtain ⟨t', ta, ws, e, hT3, hA, da⟩ := inv_call hd2
      cases e
      refine ⟨_, rfl, rfl, _, rfl, ifF (by kernel_rfl) ?_⟩
      refine ⟨_, rfl, rfl, _, rfl, ifF (by kernel_rfl) ?_⟩
      refine ⟨_, rfl, _, rfl, rfl, _, rfl, ifT (by kernel_rfl) ⟨_, rfl, t, _, _, _, rfl, rfl, hT3, rfl, _, rfl, one_sz (by show 3 ≤ 1000; decide), fun R hR => ?_⟩⟩
      exact fin R _ _ hR (fun H3 f3 e3 d3 => .cons (.str _) (.cons (.str _) (.cons (inn f3 e3 d3) .nil))) (by simp only [shp, shps_list]; rfl)
    all_goals
      refine ⟨_, rfl, rfl, _, rfl, ifF (by kernel_rfl) ?_⟩
      refine ⟨_, rfl, rfl, _, rfl, ifF (by kernel_rfl) ?_⟩
      refine ⟨_, rfl, _, rfl, rfl, _, rfl, ifF (by kernel_rfl) ⟨_, rfl, one_sz (by show 3 ≤ 1000; decide), fun R hR => ?_⟩⟩
      exact fin R _ _ hR (fun H3 f3 e3 d3 => .cons (.str _) (.cons (.str _) (.cons (inn f3 e3 d3) .nil))) rfl
end BN
namespace BN
open PySem L2 PyProof.Rows
/-! ### names, rising -/
def LtS (x y : Str) : Prop := x.cps.toList < y.cps.toList
instance (x y : Str) : Decidable (LtS x y) := by unfold LtS; exact inferInstance
theorem lts_irrefl (x : Str) : ¬ LtS x x := List.lt_irrefl _
theorem lts_trans {x y z : Str} (h : LtS x y) (k : LtS y z) : LtS x z := List.lt_trans h k
theorem str_eq_of {x y : Str} (h : x.cps.toList = y.cps.toList) : x = y := by
  cases x; cases y
  simp only [Str.mk.injEq]
  exact Array.toList_inj.mp h
theorem lts_tri (x y : Str) : LtS x y ∨ x = y ∨ LtS y x := by
  by_cases h : LtS x y
  · exact .inl h
  · by_cases k : LtS y x
    · exact .inr (.inr k)
    · exact .inr (.inl (str_eq_of (List.le_antisymm (List.not_lt.mp k) (List.not_lt.mp h))))
def insS (x : Str) : List Str → List Str
  | [] => [x]
  | y :: r => if LtS x y then x :: y :: r else if x = y then y :: r else y :: insS x r
def srtS (l : List Str) : List Str := l.foldr insS []
abbrev Ris (l : List Str) : Prop := l.Pairwise LtS
theorem mem_insS {x z : Str} : ∀ {l : List Str}, z ∈ insS x l ↔ z = x ∨ z ∈ l
  | [] => by simp [insS]
  | y :: r => by
    unfold insS
    split
    · simp
    · split
      · rename_i e; subst e; simp
      · rw [List.mem_cons, mem_insS (l := r), List.mem_cons]
        constructor
        · rintro (h | h | h)
          · exact .inr (.inl h)
          · exact .inl h
          · exact .inr (.inr h)
        · rintro (h | h | h)
          · exact .inr (.inl h)
          · exact .inl h
          · exact .inr (.inr h)
theorem ris_insS {x : Str} : ∀ {l : List Str}, Ris l → Ris (insS x l)
  | [], _ => by simp [insS, Ris]
  | y :: r, h => by
    have h' := List.pairwise_cons.mp h
    unfold insS
    split
    · rename_i hx
      refine List.pairwise_cons.mpr ⟨fun z hz => ?_, h⟩
      rcases List.mem_cons.mp hz with rfl | hz
      · exact hx
      · exact lts_trans hx (h'.1 z hz)
    · split
      · exact h
      · rename_i h1 h2
        refine List.pairwise_cons.mpr ⟨fun z hz => ?_, ris_insS h'.2⟩
        rcases mem_insS.mp hz with rfl | hz
        · rcases lts_tri z y with q | q | q
          · exact absurd q h1
          · exact absurd q h2
          · exact q
        · exact h'.1 z hz
theorem mem_srtS {z : Str} : ∀ {l : List Str}, z ∈ srtS l ↔ z ∈ l
  | [] => by simp [srtS]
  | x :: r => by
    show z ∈ insS x (srtS r) ↔ _
    rw [mem_insS, mem_srtS (l := r), List.mem_cons]
theorem ris_srtS : ∀ l : List Str, Ris (srtS l)
  | [] => by simp [srtS, Ris]
  | x :: r => ris_insS (ris_srtS r)
theorem ris_uniq : ∀ {l m : List Str}, Ris l → Ris m → (∀ z, z ∈ l ↔ z ∈ m) → l = m
  | [], [], _, _, _ => rfl
  | [], y :: m, _, _, h => by have := (h y).mpr (List.mem_cons_self ..); cases this
  | x :: l, [], _, _, h => by have := (h x).mp (List.mem_cons_self ..); cases this
  | x :: l, y :: m, hl, hm, h => by
    have hl' := List.pairwise_cons.mp hl
    have hm' := List.pairwise_cons.mp hm
    have e : x = y := by
      rcases lts_tri x y with q | q | q
      · rcases List.mem_cons.mp ((h x).mp (List.mem_cons_self ..)) with z | z
        · exact z
        · exact absurd (lts_trans q (hm'.1 x z)) (lts_irrefl x)
      · exact q
      · rcases List.mem_cons.mp ((h y).mpr (List.mem_cons_self ..)) with z | z
        · exact z.symm
        · exact absurd (lts_trans q (hl'.1 y z)) (lts_irrefl y)
    subst e
    congr 1
    refine ris_uniq hl'.2 hm'.2 fun z => ?_
    constructor
    · intro hz
      rcases List.mem_cons.mp ((h z).mp (List.mem_cons_of_mem _ hz)) with q | q
      · subst q; exact absurd (hl'.1 z hz) (lts_irrefl z)
      · exact q
    · intro hz
      rcases List.mem_cons.mp ((h z).mpr (List.mem_cons_of_mem _ hz)) with q | q
      · subst q; exact absurd (hm'.1 z hz) (lts_irrefl z)
      · exact q
theorem ris_nodup {l : List Str} (h : Ris l) : l.Nodup := h.imp fun q e => by subst e; exact lts_irrefl _ q
theorem lts_cps (x y : Str) : Spec.ltCps x.cps.toList y.cps.toList = decide (LtS x y) := ltCps_eq _ _
theorem rising_ris : ∀ {r : List Str} {p : Str}, risingS p r = true → (p :: r).Nodup → Ris (p :: r)
  | [], p, _, _ => by simp [Ris]
  | x :: r, p, h, nd => by
    simp only [risingS, Bool.and_eq_true, Bool.not_eq_true'] at h
    have nd' := List.nodup_cons.mp nd
    have ih := rising_ris h.2 nd'.2
    have h1 : ¬ LtS x p := by
      have := h.1
      rw [lts_cps] at this
      exact of_decide_eq_false this
    have px : LtS p x := by
      rcases lts_tri p x with q | q | q
      · exact q
      · exact absurd (by rw [q]; exact List.mem_cons_self ..) nd'.1
      · exact absurd q h1
    refine List.pairwise_cons.mpr ⟨fun z hz => ?_, ih⟩
    rcases List.mem_cons.mp hz with rfl | hz
    · exact px
    · exact lts_trans px ((List.pairwise_cons.mp ih).1 z hz)
theorem ris_of {l : List Str} (h : sortedS l = true) (nd : l.Nodup) : Ris l := by
  cases l with
  | nil => simp [Ris]
  | cons x r => exact rising_ris h nd
theorem srt_of {ys xs : List Str} (nd : ys.Nodup) (hm : ∀ k, k ∈ ys ↔ k ∈ xs) (hs : sortedS ys = true) : ys = srtS xs :=
  ris_uniq (ris_of hs nd) (ris_srtS xs) fun z => by rw [hm z, mem_srtS]
theorem srt_eq {xs ys : List Str} (h : ∀ z, z ∈ xs ↔ z ∈ ys) : srtS xs = srtS ys :=
  ris_uniq (ris_srtS _) (ris_srtS _) fun z => by rw [mem_srtS, mem_srtS]; exact h z
theorem srt_ris {l : List Str} (h : Ris l) : srtS l = l := ris_uniq (ris_srtS _) h fun z => mem_srtS
theorem srt_len {xs : List Str} {L : List Str} (nd : L.Nodup) (hm : ∀ k, k ∈ L ↔ k ∈ xs) : L.length = (srtS xs).length :=
  ((List.perm_ext_iff_of_nodup nd (ris_nodup (ris_srtS xs))).mpr fun z => by rw [hm z, mem_srtS]).length_eq
end BN
namespace BNO
open PySem PySem.Spec PyProof.Rows L2
/-! ### C() of a class without an own __init__; C().m(..) -/
structure New0 (K : PySem.W.Frag) (C : Addr) : Prop where
  makes : PySem.W.makesIn K C = true
  init : PySem.W.findIn K (.ref C) "__init__" = some (some (.builtin "object.__init__"))
  kp : PySem.W.keepIn K (.ref C) = true
def tNew0 (C : Addr) : TE := fun _ H Q => ∀ x dx, H x = none → H dx = none → dx ≠ x → Q (.ref x) (upd (upd H dx (.own x)) x (.ins C dx []))
section
variable {X : Cx} {x : Str} {p pos : Pos} {C : Addr}
theorem pe_new0 (N : New0 X.K C) (hg : Gl X x) (hm : X.mg x = some (.ref C)) (hdb : (x == ("__debug__" : Str)) = false := by decide) : PE X (.Call (.Name x p) [] [] pos) (tNew0 C) := by
  refine ⟨fun pins s σ H Q I h => ?_⟩
  refine wpAny_Call_Name_kw (ld_glob I hg hm ?_ hdb)
  refine PySem.W.callWith_K0 I.kIn N.kp ?_
  have hq := h (s.heap.objs.size + 1) s.heap.objs.size (I.hok.fresh (Nat.le_succ _)) (I.hok.fresh (Nat.le_refl _)) (Nat.ne_of_lt (Nat.lt_succ_self _))
  have I2 := Inv.made (C := C) I
  have Y := PySem.W.makes_of (M := model X.prog X.w) I.kIn N.makes
  have e2 := Heap.get?_push_size (s.heap.push PySem.W.emptyDict) (o := PySem.W.instObj C s.heap.objs.size) rfl
  rw [Heap.size_push] at e2
  have t1 : PySem.W.Looks (model X.prog X.w) ((s.heap.push PySem.W.emptyDict).push (PySem.W.instObj C s.heap.objs.size)) (typeOf (.ref (s.heap.objs.size + 1))) (.ref C) := (PySem.W.Looks.ld e2).andThen .now
  have t2 := t1.andThen (f := fun t => isSubtype t (.type "object")) (Y.top.keeps fun b o e => Heap.get?_push_of_some _ (Heap.get?_push_of_some _ e))
  refine wpAny_call (make_map0 I.kIn N.makes N.init (fun self => .of_pure (PySem.W.oi_bind self)) ?_)
  refine codeAny_call_builtin PySem.W.oi_plain PySem.W.entry_oi (PySem.W.check_slot PySem.W.oi_kind PySem.W.oi_split t2 (PySem.W.oi_args _) ?_)
  rw [PySem.W.oi_run]
  exact wpAny_pure ⟨rfl, ⟨V.ref (s.heap.objs.size + 1), _, I2, rfl, hq⟩⟩
end
end BNO
namespace BN
open PySem L2
/-! ### names handed on: what is wanted, what is made -/
abbrev FW := Str → Option (List Str)
def outP (ps : List Str) (l : List Str) : List Str := l.filter fun y => decide (y ∉ ps)
mutual
def wt : Part → FW → List Str
  | .num _, _ => []
  | .name x, _ => [x]
  | .add a b, fs => srtS (wt a fs ++ wt b fs)
  | .less a b, fs => srtS (wt a fs ++ wt b fs)
  | .ite c a b, fs => srtS (wt c fs ++ (wt a fs ++ wt b fs))
  | .say a, fs => srtS (wt a fs)
  | .lt x a b, fs => srtS (wt a fs ++ outP [x] (wt b fs))
  | .fn f ps b r, fs => wt r (putN fs f (outP ps (wt b fs)))
  | .call f as, fs => srtS ((fs f).getD [] ++ wts as fs)
def wts : Parts → FW → List Str
  | .nil, _ => []
  | .cons p r, fs => wt p fs ++ wts r fs
end
abbrev kn (ps : List Str) (b : Part) (fs : FW) : List Str := outP ps (wt b fs)
abbrev nmP (l : List Str) : List Part := l.map Part.name
mutual
def hm : Part → FW → Part
  | .num n, _ => .num n
  | .name x, _ => .name x
  | .add a b, fs => .add (hm a fs) (hm b fs)
  | .less a b, fs => .less (hm a fs) (hm b fs)
  | .ite c a b, fs => .ite (hm c fs) (hm a fs) (hm b fs)
  | .say a, fs => .say (hm a fs)
  | .lt x a b, fs => .lt x (hm a fs) (hm b fs)
  | .fn f ps b r, fs => .fn f (ps ++ kn ps b fs) (hm b fs) (hm r (putN fs f (kn ps b fs)))
  | .call f as, fs => .call f (Parts.of ((hms as fs).list ++ nmP ((fs f).getD [])))
def hms : Parts → FW → Parts
  | .nil, _ => .nil
  | .cons p r, fs => .cons (hm p fs) (hms r fs)
end
def hmL (l : List Part) (fs : FW) : List Part := l.map fun p => hm p fs
theorem hms_list : ∀ (as : Parts) (fs : FW), (hms as fs).list = hmL as.list fs
  | .nil, fs => rfl
  | .cons p r, fs => by simp [hms, Parts.list, hmL, hms_list r fs]
theorem wts_list : ∀ (as : Parts) (fs : FW), wts as fs = as.list.flatMap fun p => wt p fs
  | .nil, fs => by simp [wts, Parts.list]
  | .cons p r, fs => by simp [wts, Parts.list, wts_list r fs]
mutual
def rdIn (U : List Str) : Part → Prop
  | .num _ => True
  | .name x => x ∈ U
  | .add a b => rdIn U a ∧ rdIn U b
  | .less a b => rdIn U a ∧ rdIn U b
  | .ite c a b => rdIn U c ∧ rdIn U a ∧ rdIn U b
  | .say a => rdIn U a
  | .lt _ a b => rdIn U a ∧ rdIn U b
  | .fn _ _ b r => rdIn U b ∧ rdIn U r
  | .call _ as => rdIns U as
def rdIns (U : List Str) : Parts → Prop
  | .nil => True
  | .cons p r => rdIn U p ∧ rdIns U r
end
def FwOk (U : List Str) (fs : FW) : Prop := ∀ f L, fs f = some L → Ris L ∧ ∀ x ∈ L, x ∈ U
theorem outP_ris {ps l : List Str} (h : Ris l) : Ris (outP ps l) := List.Pairwise.sublist List.filter_sublist h
theorem mem_outP {ps l : List Str} {x : Str} : x ∈ outP ps l ↔ x ∈ l ∧ x ∉ ps := by simp [outP]
theorem FwOk.put {U : List Str} {fs : FW} (h : FwOk U fs) {f : Str} {L : List Str} (hr : Ris L) (hu : ∀ x ∈ L, x ∈ U) : FwOk U (putN fs f L) := fun g M e => by
  unfold putN at e
  by_cases q : g = f
  · rw [if_pos q] at e; cases e; exact ⟨hr, hu⟩
  · rw [if_neg q] at e; exact h g M e
mutual
theorem wt_ok (U : List Str) : ∀ (p : Part) (fs : FW), FwOk U fs → rdIn U p → Ris (wt p fs) ∧ ∀ x ∈ wt p fs, x ∈ U
  | .num _, fs, h, r => by simp [wt, Ris]
  | .name x, fs, h, r => by simp only [rdIn] at r; simp [wt, Ris, r]
  | .add a b, fs, h, r => by
    simp only [rdIn] at r
    have h1 := wt_ok U a fs h r.1; have h2 := wt_ok U b fs h r.2
    simp only [wt]
    refine ⟨ris_srtS _, fun x hx => ?_⟩
    rcases List.mem_append.mp (mem_srtS.mp hx) with z | z
    · exact h1.2 x z
    · exact h2.2 x z
  | .less a b, fs, h, r => by
    simp only [rdIn] at r
    have h1 := wt_ok U a fs h r.1; have h2 := wt_ok U b fs h r.2
    simp only [wt]
    refine ⟨ris_srtS _, fun x hx => ?_⟩
    rcases List.mem_append.mp (mem_srtS.mp hx) with z | z
    · exact h1.2 x z
    · exact h2.2 x z
  | .ite c a b, fs, h, r => by
    simp only [rdIn] at r
    have h0 := wt_ok U c fs h r.1; have h1 := wt_ok U a fs h r.2.1; have h2 := wt_ok U b fs h r.2.2
    simp only [wt]
    refine ⟨ris_srtS _, fun x hx => ?_⟩
    rcases List.mem_append.mp (mem_srtS.mp hx) with z | z
    · exact h0.2 x z
    · rcases List.mem_append.mp z with z | z
      · exact h1.2 x z
      · exact h2.2 x z
  | .say a, fs, h, r => by
    simp only [rdIn] at r
    have h1 := wt_ok U a fs h r
    simp only [wt]
    exact ⟨ris_srtS _, fun x hx => h1.2 x (mem_srtS.mp hx)⟩
  | .lt y a b, fs, h, r => by
    simp only [rdIn] at r
    have h1 := wt_ok U a fs h r.1; have h2 := wt_ok U b fs h r.2
    simp only [wt]
    refine ⟨ris_srtS _, fun x hx => ?_⟩
    rcases List.mem_append.mp (mem_srtS.mp hx) with z | z
    · exact h1.2 x z
    · exact h2.2 x (mem_outP.mp z).1
  | .fn f ps b r', fs, h, r => by
    simp only [rdIn] at r
    have h1 := wt_ok U b fs h r.1
    simp only [wt]
    exact wt_ok U r' _ (h.put (outP_ris h1.1) fun x hx => h1.2 x (mem_outP.mp hx).1) r.2
  | .call f as, fs, h, r => by
    simp only [rdIn] at r
    have h1 := wts_ok U as fs h r
    simp only [wt]
    refine ⟨ris_srtS _, fun x hx => ?_⟩
    rcases List.mem_append.mp (mem_srtS.mp hx) with z | z
    · cases q : fs f with
      | none => rw [q] at z; cases z
      | some L => rw [q] at z; exact (h f L q).2 x z
    · exact h1 x z
theorem wts_ok (U : List Str) : ∀ (as : Parts) (fs : FW), FwOk U fs → rdIns U as → ∀ x ∈ wts as fs, x ∈ U
  | .nil, fs, h, r => by simp [wts]
  | .cons p q, fs, h, r => by
    simp only [rdIns] at r
    have h1 := wt_ok U p fs h r.1; have h2 := wts_ok U q fs h r.2
    intro x hx
    simp only [wts] at hx
    rcases List.mem_append.mp hx with z | z
    · exact h1.2 x z
    · exact h2 x z
end
theorem kn_ok {U : List Str} {ps : List Str} {b : Part} {fs : FW} (h : FwOk U fs) (r : rdIn U b) : Ris (kn ps b fs) ∧ ∀ x ∈ kn ps b fs, x ∈ U :=
  ⟨outP_ris (wt_ok U b fs h r).1, fun x hx => (wt_ok U b fs h r).2 x (mem_outP.mp hx).1⟩
theorem sub_len : ∀ {l U : List Str}, l.Nodup → (∀ x ∈ l, x ∈ U) → l.length ≤ U.length
  | [], U, _, _ => Nat.zero_le _
  | x :: l, U, nd, h => by
    have nd' := List.nodup_cons.mp nd
    have hx := h x (List.mem_cons_self ..)
    have := sub_len (U := U.erase x) nd'.2 fun y hy => by
      have ne : y ≠ x := fun e => nd'.1 (by rw [← e]; exact hy)
      exact (List.mem_erase_of_ne ne).mpr (h y (List.mem_cons_of_mem _ hy))
    rw [List.length_erase_of_mem hx] at this
    have := List.length_pos_of_mem hx
    simp only [List.length_cons]; omega
theorem ris_len {U l : List Str} (h : Ris l) (hu : ∀ x ∈ l, x ∈ U) : l.length ≤ U.length := sub_len (ris_nodup h) hu
theorem rdIn_inner {U : List Str} : ∀ {p : Part}, rdIn U p → ∀ q ∈ p.inner, rdIn U q := by
  intro p h q hq
  have lst : ∀ as : Parts, rdIns U as → ∀ q ∈ as.list, rdIn U q := fun as => by
    induction as using Parts.rec (motive_1 := fun _ => True) with
    | nil => intro _ q hq; cases hq
    | cons p r _ ih =>
      intro h q hq
      simp only [rdIns] at h
      rcases List.mem_cons.mp (by simpa [Parts.list] using hq : q ∈ p :: r.list) with rfl | z
      · exact h.1
      · exact ih h.2 q z
    | _ => trivial
  cases p <;> simp only [Part.inner, List.mem_cons, List.not_mem_nil, or_false] at hq <;> simp only [rdIn] at h
  · rcases hq with rfl | rfl
    · exact h.1
    · exact h.2
  · rcases hq with rfl | rfl
    · exact h.1
    · exact h.2
  · rcases hq with rfl | rfl | rfl
    · exact h.1
    · exact h.2.1
    · exact h.2.2
  · subst hq; exact h
  · rcases hq with rfl | rfl
    · exact h.1
    · exact h.2
  · rcases hq with rfl | rfl
    · exact h.1
    · exact h.2
  · exact lst _ h q hq
/-! ### no refusal -/
mutual
def fitH : Part → FW → Prop
  | .num _, _ => True
  | .name _, _ => True
  | .add a b, fs => fitH a fs ∧ fitH b fs
  | .less a b, fs => fitH a fs ∧ fitH b fs
  | .ite c a b, fs => fitH c fs ∧ fitH a fs ∧ fitH b fs
  | .say a, fs => fitH a fs
  | .lt _ a b, fs => fitH a fs ∧ fitH b fs
  | .fn f ps b r, fs => (ps ++ kn ps b fs).length ≤ 12 ∧ fitH b fs ∧ fitH r (putN fs f (kn ps b fs))
  | .call _ as, fs => fitHs as fs
def fitHs : Parts → FW → Prop
  | .nil, _ => True
  | .cons p r, fs => fitH p fs ∧ fitHs r fs
end
mutual
def psIn (U : List Str) : Part → Prop
  | .num _ => True
  | .name _ => True
  | .add a b => psIn U a ∧ psIn U b
  | .less a b => psIn U a ∧ psIn U b
  | .ite c a b => psIn U c ∧ psIn U a ∧ psIn U b
  | .say a => psIn U a
  | .lt _ a b => psIn U a ∧ psIn U b
  | .fn _ ps b r => (∀ x ∈ ps, x ∈ U) ∧ ps.Nodup ∧ psIn U b ∧ psIn U r
  | .call _ as => psIns U as
def psIns (U : List Str) : Parts → Prop
  | .nil => True
  | .cons p r => psIn U p ∧ psIns U r
end
theorem kn_app {U : List Str} {ps : List Str} {b : Part} {fs : FW} (h : FwOk U fs) (r : rdIn U b) (hp : ∀ x ∈ ps, x ∈ U) (nd : ps.Nodup) : (ps ++ kn ps b fs).Nodup ∧ ∀ x ∈ ps ++ kn ps b fs, x ∈ U := by
  have k := kn_ok (ps := ps) h r
  refine ⟨List.nodup_append.mpr ⟨nd, ris_nodup k.1, fun x hx y hy e => ?_⟩, fun x hx => ?_⟩
  · subst e; exact (mem_outP.mp hy).2 hx
  · rcases List.mem_append.mp hx with z | z
    · exact hp x z
    · exact k.2 x z
mutual
theorem fit_of (U : List Str) (hU : U.length ≤ 12) : ∀ (p : Part) (fs : FW), FwOk U fs → rdIn U p → psIn U p → fitH p fs
  | .num _, fs, h, r, s => trivial
  | .name _, fs, h, r, s => trivial
  | .add a b, fs, h, r, s => by simp only [rdIn, psIn] at r s; simp only [fitH]; exact ⟨fit_of U hU a fs h r.1 s.1, fit_of U hU b fs h r.2 s.2⟩
  | .less a b, fs, h, r, s => by simp only [rdIn, psIn] at r s; simp only [fitH]; exact ⟨fit_of U hU a fs h r.1 s.1, fit_of U hU b fs h r.2 s.2⟩
  | .ite c a b, fs, h, r, s => by simp only [rdIn, psIn] at r s; simp only [fitH]; exact ⟨fit_of U hU c fs h r.1 s.1, fit_of U hU a fs h r.2.1 s.2.1, fit_of U hU b fs h r.2.2 s.2.2⟩
  | .say a, fs, h, r, s => by simp only [rdIn, psIn] at r s; simp only [fitH]; exact fit_of U hU a fs h r s
  | .lt _ a b, fs, h, r, s => by simp only [rdIn, psIn] at r s; simp only [fitH]; exact ⟨fit_of U hU a fs h r.1 s.1, fit_of U hU b fs h r.2 s.2⟩
  | .fn f ps b r', fs, h, r, s => by
    simp only [rdIn, psIn] at r s
    have k := kn_ok (ps := ps) h r.1
    have a := kn_app h r.1 s.1 s.2.1
    simp only [fitH]
    exact ⟨Nat.le_trans (sub_len a.1 a.2) hU, fit_of U hU b fs h r.1 s.2.2.1, fit_of U hU r' _ (h.put k.1 k.2) r.2 s.2.2.2⟩
  | .call f as, fs, h, r, s => by simp only [rdIn, psIn] at r s; simp only [fitH]; exact fits_of U hU as fs h r s
theorem fits_of (U : List Str) (hU : U.length ≤ 12) : ∀ (as : Parts) (fs : FW), FwOk U fs → rdIns U as → psIns U as → fitHs as fs
  | .nil, fs, h, r, s => trivial
  | .cons p q, fs, h, r, s => by simp only [rdIns, psIns] at r s; simp only [fitHs]; exact ⟨fit_of U hU p fs h r.1 s.1, fits_of U hU q fs h r.2 s.2⟩
end
/-! ### drawn programs -/
theorem rdIns_of {U : List Str} : ∀ {l : List Part}, (∀ a ∈ l, rdIn U a) → rdIns U (Parts.of l)
  | [], _ => trivial
  | p :: r, h => ⟨h p (List.mem_cons_self ..), rdIns_of fun a ha => h a (List.mem_cons_of_mem _ ha)⟩
theorem psIns_of {U : List Str} : ∀ {l : List Part}, (∀ a ∈ l, psIn U a) → psIns U (Parts.of l)
  | [], _ => trivial
  | p :: r, h => ⟨h p (List.mem_cons_self ..), psIns_of fun a ha => h a (List.mem_cons_of_mem _ ha)⟩
theorem leaf_rd {names U p} (h : Leaf names p) (hn : ∀ x ∈ names, x ∈ U) : rdIn U p ∧ psIn U p := by
  cases h with
  | num _ _ => exact ⟨trivial, trivial⟩
  | name h => exact ⟨hn _ h, trivial⟩
theorem gen_rd {ws : List Str} {d names funs p} (h : Gen ws d names funs p) : (∀ x ∈ names, x ∈ ws) → rdIn ws p ∧ psIn ws p := by
  have app : ∀ {a b : List Str}, (∀ x ∈ a, x ∈ ws) → (∀ x ∈ b, x ∈ ws) → ∀ x ∈ a ++ b, x ∈ ws := fun h k x hx => (List.mem_append.mp hx).elim (h x) (k x)
  induction h with
  | leaf h => intro q; exact leaf_rd h q
  | fn _ _ nd hp _ _ _ ib ir => intro q; have h1 := ib (app q hp); have h2 := ir q; exact ⟨⟨h1.1, h2.1⟩, ⟨hp, nd, h1.2, h2.2⟩⟩
  | fnc _ _ nd hp _ _ _ hw hle has _ ib ir =>
    intro q
    have h1 := ib (app q hp); have h2 := ir q; have h3 := leaf_rd hle q
    have h4 : ∀ a ∈ _, rdIn ws a ∧ psIn ws a := fun a ha => leaf_rd (has a ha) q
    exact ⟨⟨h1.1, h2.1, h3.1, rdIns_of fun a ha => (h4 a ha).1⟩, ⟨hp, nd, h1.2, h2.2, h3.2, psIns_of fun a ha => (h4 a ha).2⟩⟩
  | lt _ hx _ _ ia ib => intro q; have h1 := ia q; have h2 := ib (app q fun y hy => by rw [List.mem_singleton.mp hy]; exact hx); exact ⟨⟨h1.1, h2.1⟩, ⟨h1.2, h2.2⟩⟩
  | call _ _ _ ih => intro q; exact ⟨rdIns_of fun a ha => (ih a ha q).1, psIns_of fun a ha => (ih a ha q).2⟩
  | say _ _ ih => intro q; exact ih q
  | ite _ _ _ hl ic ia => intro q; have h1 := ic q; have h2 := ia q; have h3 := leaf_rd hl q; exact ⟨⟨h1.1, h2.1, h3.1⟩, ⟨h1.2, h2.2, h3.2⟩⟩
  | add _ _ _ ia ib => intro q; have h1 := ia q; have h2 := ib q; exact ⟨⟨h1.1, h2.1⟩, ⟨h1.2, h2.2⟩⟩
  | less _ _ _ ia ib => intro q; have h1 := ia q; have h2 := ib q; exact ⟨⟨h1.1, h2.1⟩, ⟨h1.2, h2.2⟩⟩
theorem Drawn.rd {d : Int} {ins : List Str} {p : Part} (h : Drawn d ins p) : ∃ U : List Str, U.length ≤ 5 ∧ rdIn U p ∧ psIn U p ∧ ∀ x ∈ ins, x ∈ U := by
  obtain ⟨ws, k, W, hk, rfl, g⟩ := h.ex
  refine ⟨ws, W.l5, ?_⟩
  have q : ∀ x ∈ ws.take k, x ∈ ws := fun x hx => List.mem_of_mem_take hx
  rcases g with g | ⟨a, b, rfl, ga, gb⟩ | rfl
  · have := gen_rd g q; exact ⟨this.1, this.2, q⟩
  · have h1 := gen_rd ga q; have h2 := gen_rd gb q; exact ⟨⟨h1.1, h2.1⟩, ⟨h1.2, h2.2⟩, q⟩
  · exact ⟨trivial, trivial, q⟩
mutual
theorem hm_dep : ∀ (p : Part) (fs : FW), (hm p fs).dep ≤ p.dep + 1
  | .num _, fs => by simp [hm, Part.dep]
  | .name _, fs => by simp [hm, Part.dep]
  | .add a b, fs => by have := hm_dep a fs; have := hm_dep b fs; simp only [hm, Part.dep]; omega
  | .less a b, fs => by have := hm_dep a fs; have := hm_dep b fs; simp only [hm, Part.dep]; omega
  | .ite c a b, fs => by have := hm_dep c fs; have := hm_dep a fs; have := hm_dep b fs; simp only [hm, Part.dep]; omega
  | .say a, fs => by have := hm_dep a fs; simp only [hm, Part.dep]; omega
  | .lt x a b, fs => by have := hm_dep a fs; have := hm_dep b fs; simp only [hm, Part.dep]; omega
  | .fn f ps b r, fs => by have := hm_dep b fs; have := hm_dep r (putN fs f (kn ps b fs)); simp only [hm, Part.dep]; omega
  | .call f as, fs => by
    have h := hms_dep as fs
    simp only [hm, Part.dep]
    have : (Parts.of ((hms as fs).list ++ nmP ((fs f).getD []))).dep ≤ as.dep + 1 := parts_dep fun a ha => by
      rcases List.mem_append.mp ha with z | z
      · have := dep_list _ a z; omega
      · obtain ⟨x, _, rfl⟩ := List.mem_map.mp z
        simp [Part.dep]
    omega
theorem hms_dep : ∀ (as : Parts) (fs : FW), (hms as fs).dep ≤ as.dep + 1
  | .nil, fs => by simp [hms, Parts.dep]
  | .cons p r, fs => by have := hm_dep p fs; have := hms_dep r fs; simp only [hms, Parts.dep]; omega
end
mutual
theorem hm_wid (U : List Str) : ∀ (p : Part) (fs : FW), FwOk U fs → rdIn U p → (hm p fs).wid ≤ p.wid + U.length
  | .num _, fs, h, r => by simp [hm, Part.wid]
  | .name _, fs, h, r => by simp [hm, Part.wid]
  | .add a b, fs, h, r => by simp only [rdIn] at r; have := hm_wid U a fs h r.1; have := hm_wid U b fs h r.2; simp only [hm, Part.wid]; omega
  | .less a b, fs, h, r => by simp only [rdIn] at r; have := hm_wid U a fs h r.1; have := hm_wid U b fs h r.2; simp only [hm, Part.wid]; omega
  | .ite c a b, fs, h, r => by simp only [rdIn] at r; have := hm_wid U c fs h r.1; have := hm_wid U a fs h r.2.1; have := hm_wid U b fs h r.2.2; simp only [hm, Part.wid]; omega
  | .say a, fs, h, r => by simp only [rdIn] at r; have := hm_wid U a fs h r; simp only [hm, Part.wid]; omega
  | .lt x a b, fs, h, r => by simp only [rdIn] at r; have := hm_wid U a fs h r.1; have := hm_wid U b fs h r.2; simp only [hm, Part.wid]; omega
  | .fn f ps b r', fs, h, r => by
    simp only [rdIn] at r
    have k := kn_ok (ps := ps) h r.1
    have := ris_len k.1 k.2
    have := hm_wid U b fs h r.1
    have := hm_wid U r' (putN fs f (kn ps b fs)) (h.put k.1 k.2) r.2
    simp only [hm, Part.wid, List.length_append]; omega
  | .call f as, fs, h, r => by
    simp only [rdIn] at r
    have h1 := hms_wid U as fs h r
    have e1 : (hms as fs).list.length = as.len := by rw [hms_list]; simp [hmL, Parts.list_len]
    have e2 : ((fs f).getD []).length ≤ U.length := by
      cases q : fs f with
      | none => simp
      | some L => have k := h f L q; exact ris_len k.1 k.2
    have e3 : (Parts.of ((hms as fs).list ++ nmP ((fs f).getD []))).wid ≤ as.wid + U.length := parts_wid fun a ha => by
      rcases List.mem_append.mp ha with z | z
      · have := wid_list _ a z; omega
      · obtain ⟨x, _, rfl⟩ := List.mem_map.mp z
        simp [Part.wid]
    simp only [hm, Part.wid, Parts.len_of, List.length_append, List.length_map]; omega
theorem hms_wid (U : List Str) : ∀ (as : Parts) (fs : FW), FwOk U fs → rdIns U as → (hms as fs).wid ≤ as.wid + U.length
  | .nil, fs, h, r => by simp [hms, Parts.wid]
  | .cons p q, fs, h, r => by simp only [rdIns] at r; have := hm_wid U p fs h r.1; have := hms_wid U q fs h r.2; simp only [hms, Parts.wid]; omega
end
end BN
namespace BN
open PySem L2 PyProof.Rows
/-! ### wants, known -/
/-- functions' wanted names, as lists, in a dict -/
structure FsAt (K : PySem.W.Frag) (H : Hp) (af : Addr) (kvs : List (Key × V)) (fs : FW) : Prop where
  d : H af = some (.dK kvs)
  at_ : ∀ f L, fs f = some L → ∃ a, valV kvs (Sum.inr f) = some (.ref a) ∧ H a = some (.lst (L.map V.str))
theorem FsAt.fr {K : PySem.W.Frag} {H H' : Hp} {af : Addr} {kvs : List (Key × V)} {fs : FW} (h : FsAt K H af kvs fs) (f : Fr c0 H H') : FsAt K H' af kvs fs :=
  ⟨f.at h.d (fun z => z), fun g L e => by
    obtain ⟨a, h1, h2⟩ := h.at_ g L e
    exact ⟨a, h1, f.at h2 (fun z => z)⟩⟩
structure WtOk (U : List Str) (pt : Part) (ns : List Str) (fa : FE0) (fs : FW) (kvs : List (Key × V)) : Prop where
  ok : pt.ok ns fa
  rd : rdIn U pt
  fw : FwOk U fs
  has : ∀ f n, fa f = some n → (fs f).isSome = true
  u : U.length ≤ 30
  wid : pt.wid ≤ 100
  sz : kvs.length + pt.size ≤ 1000
def spWants (K : PySem.W.Frag) (C : Addr) (n : Nat) : Sp := fun vs H Q _ => ∃ (p dx : Addr) (v : V) (af : Addr) (pt : Part) (U ns : List Str) (fa : FE0) (fs : FW) (kvs : List (Key × V)), vs = [.ref p, v, .ref af] ∧
  H p = some (.ins C dx []) ∧ Dp K H v pt.enc ∧ FsAt K H af kvs fs ∧ WtOk U pt ns fa fs kvs ∧ 2 * pt.dep ≤ n ∧
  ∀ D H', Fr c0 H H' → H D = none → H' D = some (.lst ((wt pt fs).map V.str)) → Q (.ref D) H'
def spKnown (K : PySem.W.Frag) (C : Addr) (n : Nat) : Sp := fun vs H Q _ => ∃ (p dx : Addr) (v : V) (af : Addr) (f : Str) (ps : List Str) (b r : Part) (U ns : List Str) (fa : FE0) (fs : FW) (kvs : List (Key × V)), vs = [.ref p, v, .ref af] ∧
  H p = some (.ins C dx []) ∧ Dp K H v (Part.fn f ps b r).enc ∧ FsAt K H af kvs fs ∧ WtOk U (.fn f ps b r) ns fa fs kvs ∧ 2 * b.dep + 1 ≤ n ∧
  ∀ D L H', Fr c0 H H' → H D = none → H L = none → H' D = some (.dK (putK kvs (Sum.inr f) (.ref L))) → H' L = some (.lst ((kn ps b fs).map V.str)) → Q (.ref D) H'
/-- [x for x in xs if test] of texts -/
theorem filt_lc {K : PySem.W.Frag} {H1 : Hp} {σ : L2.St} {Q : Addr → Hp → Prop} {a : Addr} {xs : List Str} {j : Nat} {tt : TT} {tst : Str → Bool} (hj : j < σ.length) (hx : SqL K H1 a (xs.map V.str)) (hn : xs.length ≤ 100000)
    (htt : ∀ x H' Q, Fr c0 H1 H' → Q (tst x) H' → tt ((wipe σ [j]).set j (some (.str x))) H' Q)
    (hq : ∀ (D : Addr) (H' : Hp), H1 D = none → H' D = some (.lst ((xs.filter tst).map V.str)) → Fr c0 H1 H' → Q D H') : ∀ D, H1 D = none →
    ∃ W : Nat → Nat → Hp → Prop, (∃ m, W 0 m (upd H1 D (.lst []))) ∧ ∀ i m H, W i m H →
      ((Itl K a).stop i H ∧ Q D H) ∨ ((Itl K a).go i H ∧ ∃ Nx : Hp → Prop, (∀ H', Nx H' → ∃ m', m' < m ∧ W (i + 1) m' H') ∧ ∀ x H', (Itl K a).yld i H x H' → gName j x (wipe σ [j]) H' fun σ2 H2 => wipe σ2 [j] = wipe σ [j] ∧ tt σ2 H2 fun b H3 =>
        if b = true then (tVar j) σ2 H3 fun y H4 => ∃ acc, H4 D = some (.lst acc) ∧ acc.length < sizeLine ∧ Nx (upd H4 D (.lst (acc ++ [y]))) else Nx H3) := fun D hD => by
  refine lc_list (K := K) (a := a) (xs := xs.map V.str) (Qd := fun H => Q D H) (fun i H' => Fr c0 H1 H' ∧ H' D = some (.lst (((xs.take i).filter tst).map V.str))) ⟨Fr.new hD, by rw [upd_same]; rfl⟩ (fun i H' _ ⟨f, _⟩ => f.sqL (fun _ z => z) hx) (fun i x H' hi ⟨f, e⟩ => ⟨wipe1 _ _ _, ?_⟩) fun H' ⟨f, e⟩ => ?_
  · obtain ⟨y, hy, rfl⟩ := map_at hi
    have hl := at_lt hy
    refine htt y H' _ f ?_
    have ef : (xs.take (i + 1)).filter tst = (xs.take i).filter tst ++ [y].filter tst := by rw [take_more hy, List.filter_append]
    cases q : tst y with
    | true =>
      refine iteT ⟨_, by rw [List.getElem?_set_self (by simpa [wipe] using hj)], _, e, sz_lt' ?_, f.fresh hD, ?_⟩
      · rw [List.length_map]
        have := List.length_filter_le tst (xs.take i)
        rw [List.length_take] at this; omega
      · rw [upd_same, ef, List.filter_cons_of_pos q, List.map_append]; rfl
    | false =>
      refine iteF ⟨f, ?_⟩
      rw [e, ef, List.filter_cons_of_neg (by simp [q]), List.filter_nil, List.append_nil]
  · rw [List.length_map, List.take_length] at e
    exact hq D H' hD e f
theorem outP_not (ps : List Str) (x : Str) : (!inV (V.str x) (ps.map V.str)) = decide (x ∉ ps) := by
  by_cases h : x ∈ ps
  · rw [inV_strs h, decide_eq_false (fun z => z h)]; rfl
  · have : inV (V.str x) (ps.map V.str) = false := by
      unfold inV
      rw [List.any_map, List.any_eq_false]
      intro y hy e
      simp [eqV] at e
      exact h (by rw [← e]; exact hy)
    rw [this, decide_eq_true h]; rfl
def t_known (K : PySem.W.Frag) (cHan : Addr) (n : Nat) : TS :=
  (tSeq (tAsg (tCB rDictD (tCons (tVar 2) tNil)) (gName 3))
    (tSeq (sDPut (tVar 3) (tOp (rIxT K) (tVar 1) (tC (.int 1))) (tLc (iList K (tMeth cHan "wants" (spWants K cHan n) [] C8.E0 (tVar 0) (tCons (tOp (rIxT K) (tVar 1) (tC (.int 3))) (tCons (tVar 2) tNil)))) (gName 4) (tTest (tOp (rIn K true) (tVar 4) (tOp (rIxT K) (tVar 1) (tC (.int 2))))) (tVar 4) [4]))
    (tRet (tVar 3))))
theorem pure_known {K : PySem.W.Frag} {C : Addr} {n : Nat} (vs : List V) (H : Hp) (Q : VK) (E : XK) (h : spKnown K C (n + 1) vs H Q E) :
    t_known K C n { nx := fun _ H' => Q .non H', rt := Q } (start ["self", "part", "funs", "found", "name"] vs) H := by
  obtain ⟨p, dx, v, af, f, ps, b, r, U, ns, fa, fs, kvs, rfl, hp, hd, F, O, hn, q⟩ := h
  obtain ⟨t, tp, vb, vr, rfl, hT, hTp, db, dr⟩ := inv_fn hd
  have ok := O.ok
  have rd := O.rd
  have wid := O.wid
  have sz := O.sz
  simp only [Part.ok, rdIn, Part.wid, Part.size] at ok rd wid sz
  have sb := size_pos r
  refine ⟨_, rfl, af, kvs, rfl, .inl F.d, fun D hD => ?_⟩
  have f1 : Fr c0 H (upd H D (.dK kvs)) := Fr.new hD
  have hD1 : (upd H D (.dK kvs)) D = some (.dK kvs) := upd_same
  have hp1 := f1.at hp (fun z => z)
  have F1 := F.fr f1
  generalize (upd H D (.dK kvs)) = H1 at f1 hD1 hp1 F1 ⊢
  refine ⟨_, rfl, p, dx, _, rfl, hp1, rfl, _, rfl, t, _, _, _, rfl, rfl, f1.sqT hT, rfl, _, rfl, p, dx, vb, af, b, U, ns ++ ps, fa, fs, kvs, rfl, hp1, Dp.fr f1 _ _ (tup_enc b) db, F1, ⟨ok.2.2.2.2.1, rd.1, O.fw, O.has, O.u, by omega, by omega⟩, by omega, fun L H2 f2 hL eL => ?_⟩
  have wl := ris_len (wt_ok U b fs O.fw rd.1).1 (wt_ok U b fs O.fw rd.1).2
  have ou := O.u
  refine ⟨L, rfl, ⟨_, SqL.of eL⟩, ?_⟩
  refine filt_lc (tst := fun y => decide (y ∉ ps)) (by show 4 < 5; decide) (SqL.of eL) (by omega) (fun x H' Q' f' hq => ?_) fun M H3 hM eM f3 => ?_
  · have f02 := (f1.trans f2).trans f'
    refine ⟨_, rfl, _, rfl, t, _, _, _, rfl, rfl, f02.sqT hT, rfl, tp, _, rfl, .inr (f02.sqT hTp), rfl, flatV_strs _, _, rfl, ?_⟩
    rw [if_pos rfl, outP_not]; exact hq
  · have f13 := f2.trans f3
    have f03 := f1.trans f13
    have hD3 := f13.at hD1 (fun z => z)
    refine ⟨_, rfl, _, rfl, t, _, _, _, rfl, rfl, f03.sqT hT, rfl, D, _, rfl, DPut.k (k := Sum.inr f) hD3 (sz_lt' (by omega)), _, rfl, ?_⟩
    have nMD : M ≠ D := fun z => by
      have : H2 D = some _ := f2.at hD1 (fun z => z)
      rw [z, this] at hM; cases hM
    refine q D M _ (f03.fresh hD) hD ((f1.trans f2).free _ hM) upd_same ?_
    rw [upd_ne nMD]; exact eM
def t_wants (K : PySem.W.Frag) (P : Program) (w : World) (cHan : Addr) (n : Nat) : TS :=
  (tSeq (tAsg (tOp (rIxT K) (tVar 1) (tC (.int 0))) (gName 3))
    (tSeq (tIfS (tTest (tOp rEq (tVar 3) (tC (.str "name")))) (tRet (tLst (tCons (tOp (rIxT K) (tVar 1) (tC (.int 1))) tNil))) tNext)
    (tSeq (tIfS (tTest (tOp rEq (tVar 3) (tC (.str "let")))) (tSeq (tAsg (tLc (iList K (tMeth cHan "wants" (spWants K cHan n) [] C8.E0 (tVar 0) (tCons (tOp (rIxT K) (tVar 1) (tC (.int 3))) (tCons (tVar 2) tNil)))) (gName 7) (tTest (tOp rNe (tVar 7) (tOp (rIxT K) (tVar 1) (tC (.int 1))))) (tVar 7) [7]) (gName 4))
    (tRet (tCB (BNS.rSortSetS P w) (tCons (tCB (BNS.rSetS K P w) (tCons (tOp rCat (tMeth cHan "wants" (spWants K cHan n) [] C8.E0 (tVar 0) (tCons (tOp (rIxT K) (tVar 1) (tC (.int 2))) (tCons (tVar 2) tNil))) (tVar 4)) tNil)) tNil)))) tNext)
    (tSeq (tIfS (tTest (tOp rEq (tVar 3) (tC (.str "fun")))) (tRet (tMeth cHan "wants" (spWants K cHan n) [] C8.E0 (tVar 0) (tCons (tOp (rIxT K) (tVar 1) (tC (.int 4))) (tCons (tMeth cHan "known" (spKnown K cHan n) [] C8.E0 (tVar 0) (tCons (tVar 1) (tCons (tVar 2) tNil))) tNil)))) tNext)
    (tSeq (tAsg (tIf (tTest (tOp rEq (tVar 3) (tC (.str "call")))) (tCB (rListSq K) (tCons (tDGet (tVar 2) (tOp (rIxT K) (tVar 1) (tC (.int 1)))) tNil)) (tLst tNil)) (gName 5))
    (tSeq (tFor (iList K (tCall (spInner K) [] C8.E0 (tCons (tVar 1) tNil))) (gName 6) (tDrop (tBM K "list" rExtend (tVar 5) (tCons (tMeth cHan "wants" (spWants K cHan n) [] C8.E0 (tVar 0) (tCons (tVar 6) (tCons (tVar 2) tNil))) tNil))))
    (tRet (tCB (BNS.rSortSetS P w) (tCons (tCB (BNS.rSetS K P w) (tCons (tVar 5) tNil)) tNil)))))))))
/-- sorted(set(xs)) -/
theorem sort_set {K : PySem.W.Frag} {P : Program} {w : World} {H : Hp} {l : Addr} {xs U : List Str} {Q : VK} (hl : H l = some (.lst (xs.map V.str))) (hx : ∀ x ∈ xs, x ∈ U) (hU : U.length ≤ 60) (hn : xs.length ≤ 4000)
    (q : ∀ D H', Fr c0 H H' → H D = none → H' D = some (.lst ((srtS xs).map V.str)) → Q (.ref D) H') :
    BNS.rSetS K P w [.ref l] H fun x H1 => BNS.rSortSetS P w [x] H1 Q := by
  refine ⟨l, xs, rfl, .inl (SqL.of hl), hn, fun p hp => ?_⟩
  have f1 : Fr c0 H (upd H p (BNS.SetSO P w p xs)) := Fr.new hp
  refine ⟨p, xs, rfl, upd_same, fun L nd hm => ?_, fun ys D nd hm hs hD => ?_⟩
  · have := sub_len nd fun x hx' => hx x ((hm x).mp hx'); omega
  · rw [srt_of nd hm hs]
    exact q D _ (f1.trans (Fr.new hD)) (f1.free _ hD) upd_same
theorem wants_tail {K : PySem.W.Frag} {P : Program} {w : World} {C p dx af t L : Addr} {n : Nat} {pt : Part} {U ns : List Str} {fa : FE0} {fs : FW} {kvs : List (Key × V)} {H0 H1 : Hp} {L0 : List Str} {Q R : VK}
    (f0 : Fr c0 H0 H1) (hL0 : H0 L = none) (hL : H1 L = some (.lst (L0.map V.str))) (hL0U : ∀ x ∈ L0, x ∈ U) (hl0 : L0.length ≤ 60) (hp : H1 p = some (.ins C dx [])) (hd : Dp K H1 (.ref t) pt.enc) (F0 : FsAt K H0 af kvs fs) (O : WtOk U pt ns fa fs kvs) (hn : 2 * pt.dep ≤ n + 1) (hf : flatP pt = true)
    (q : ∀ D H', Fr c0 H0 H' → H0 D = none → H' D = some (.lst ((srtS (L0 ++ pt.inner.flatMap fun p => wt p fs)).map V.str)) → Q (.ref D) H') :
    (tSeq (tFor (iList K (tCall (spInner K) [] C8.E0 (tCons (tVar 1) tNil))) (gName 6) (tDrop (tBM K "list" rExtend (tVar 5) (tCons (tMeth C "wants" (spWants K C n) [] C8.E0 (tVar 0) (tCons (tVar 6) (tCons (tVar 2) tNil))) tNil))))
      (tRet (tCB (BNS.rSortSetS P w) (tCons (tCB (BNS.rSetS K P w) (tCons (tVar 5) tNil)) tNil)))) { nx := fun _ H' => R .non H', rt := Q } [some (.ref p), some (.ref t), some (.ref af), some (.str pt.word), none, some (.ref L), none, none] H1 := by
  have F := F0.fr f0
  have wid := O.wid
  have sz := O.sz
  have ou := O.u
  refine ⟨_, rfl, .ref t, pt, rfl, hd, fun D ws H2 f1 hD0 e da => ⟨D, rfl, ⟨ws, SqL.of e⟩, ?_⟩⟩
  have hL2 := f1.at hL (fun z => z)
  have nDL : L ≠ D := fun z => by rw [z, hD0] at hL; cases hL
  have nLp : L ≠ p := fun z => by rw [z, hp] at hL; cases hL
  have li := len_inner pt
  have lw : ws.length = pt.inner.length := by rw [da.len, List.length_map]
  have wU : ∀ q ∈ pt.inner, ∀ x ∈ wt q fs, x ∈ U := fun q hq => (wt_ok U q fs O.fw (rdIn_inner O.rd q hq)).2
  have wL : ∀ q ∈ pt.inner, (wt q fs).length ≤ 30 := fun q hq => Nat.le_trans (ris_len (wt_ok U q fs O.fw (rdIn_inner O.rd q hq)).1 (wU q hq)) ou
  have fl : ∀ l : List Part, (∀ q ∈ l, q ∈ pt.inner) → (l.flatMap fun p => wt p fs).length ≤ 30 * l.length := fun l => by
    induction l with
    | nil => intro _; simp
    | cons a r ih =>
      intro h
      have h1 := wL a (h a (List.mem_cons_self ..))
      have h2 := ih fun q hq => h q (List.mem_cons_of_mem _ hq)
      rw [List.flatMap_cons, List.length_append, List.length_cons]; omega
  refine for_list (K := K) (a := D) (xs := ws) (fun i σ H' => ∃ u, σ = [some (.ref p), some (.ref t), some (.ref af), some (.str pt.word), none, some (.ref L), u, none] ∧ Fr c0 H0 H' ∧ Fr (fun a _ => a = L) H2 H' ∧ H' L = some (.lst ((L0 ++ (pt.inner.take i).flatMap fun p => wt p fs).map V.str)))
    ⟨_, rfl, f0.trans f1, Fr.refl _, by simpa using hL2⟩ (fun i σ H' _ ⟨_, _, _, f', _⟩ => SqL.of (f'.at e (fun z => nDL z.symm))) ?_ ?_
  · rintro i x σ H3 hi ⟨u, rfl, f03, f3, hL3⟩
    obtain ⟨dd, hdd, Dx⟩ := da.getV hi
    obtain ⟨q', hq, rfl⟩ := map_at hdd
    have hm := List.mem_of_getElem? hq
    have h1 := dep_inner pt q' hm
    have h2 := wid_inner pt q' hm
    have h3 := sizesL_le pt.inner (i + 1)
    rw [sizesL_more hq] at h3
    have h4 := size_inner pt
    have hp3 : H3 p = some (.ins C dx []) := f3.at (f1.at hp (fun z => z)) (fun z => nLp z.symm)
    have hF3 : FsAt K H3 af kvs fs := F0.fr f03
    have hi' := at_lt hq
    have h5 := fl (pt.inner.take i) fun q hq => List.mem_of_mem_take hq
    have h6 := wL q' hm
    rw [List.length_take] at h5
    refine ⟨_, rfl, .inl ⟨rfl, _, SqL.of hL3⟩, _, rfl, p, dx, _, rfl, hp3, rfl, _, rfl, _, rfl, p, dx, x, af, q', U, ns, fa, fs, kvs, rfl, hp3, Dp.fr f3 _ _ (tup_enc q') Dx, hF3, ⟨flat_in hf O.ok q' hm, rdIn_inner O.rd q' hm, O.fw, O.has, O.u, by omega, by omega⟩, by omega, fun D2 H4 f4 hD2 eD2 => ?_⟩
    have hL4 := f4.at hL3 (fun z => z)
    refine ⟨L, D2, _, _, rfl, rfl, hL4, eD2, Nat.le_of_lt (sz_lt' (by rw [List.length_map, List.length_map, List.length_append]; omega)), ?_⟩
    refine ⟨_, rfl, (f03.trans f4).fresh hL0, (f3.trans (Fr.of0 f4)).trans (Fr.set hL4 rfl trivial), ?_⟩
    rw [upd_same, flat_snoc hq, ← List.append_assoc, List.map_append (l₂ := wt q' fs)]
  · rintro σ H3 ⟨u, rfl, f03, f3, hL3⟩
    rw [lw, List.take_length] at hL3
    have h5 := fl pt.inner fun q hq => hq
    refine ⟨_, rfl, sort_set (U := U) hL3 (fun x hx => ?_) (by omega) (by rw [List.length_append]; omega) fun D2 H4 f4 hD2 eD2 => q D2 H4 (f03.trans f4) (f03.free _ hD2) eD2⟩
    rcases List.mem_append.mp hx with z | z
    · exact hL0U x z
    · obtain ⟨q, hq, hz⟩ := List.mem_flatMap.mp z
      exact wU q hq x hz
def callL : Part → FW → List Str
  | .call f _, fs => (fs f).getD []
  | _, _ => []
theorem wt_flat {pt : Part} {fs : FW} (hf : flatP pt = true) (hn : ∀ x, pt ≠ .name x) : wt pt fs = srtS (callL pt fs ++ pt.inner.flatMap fun p => wt p fs) := by
  cases pt <;> simp [flatP] at hf <;> simp [wt, Part.inner, wts_list, srtS, callL]
  exact absurd rfl (hn _)
theorem pure_wants {K : PySem.W.Frag} {P : Program} {w : World} {C : Addr} {n : Nat} (vs : List V) (H : Hp) (Q : VK) (E : XK) (h : spWants K C (n + 1) vs H Q E) :
    t_wants K P w C n { nx := fun _ H' => Q .non H', rt := Q } (start ["self", "part", "funs", "word", "inner", "found", "one", "name"] vs) H := by
  obtain ⟨p, dx, v, af, pt, U, ns, fa, fs, kvs, rfl, hp, hd, F, O, hn, q⟩ := h
  obtain ⟨t, xs, rfl, hT, hx⟩ := inv_head hd
  have ou := O.u
  refine ⟨_, rfl, t, _, _, _, rfl, rfl, hT, atI_nat (j := 0) rfl, ?_⟩
  have tail0 : flatP pt = true → (∀ f as, pt ≠ .call f as) → (∀ x, pt ≠ .name x) → ∀ L, H L = none → _ := fun hf hc hnm L hL =>
    wants_tail (P := P) (w := w) (R := Q) (Q := Q) (C := C) (n := n) (L0 := []) (Fr.new (C := c0) (o := .lst []) hL) hL upd_same (fun _ z => by cases z) (Nat.zero_le _) ((Fr.new (C := c0) hL).at hp (fun z => z)) (Dp.fr (Fr.new (C := c0) hL) _ _ (tup_enc pt) hd) F O hn hf
      fun D H' f' hD e => q D H' f' hD (by
        rw [wt_flat hf hnm]
        have : callL pt fs = [] := by
          cases pt
          case call f as => exact absurd rfl (hc f as)
          all_goals rfl
        rw [this]; exact e)
  cases pt
  case name x =>
    obtain ⟨t', e, hT3⟩ := inv_name hd
    cases e
    refine ⟨_, rfl, rfl, _, rfl, ifT (by kernel_rfl) ?_⟩
    refine ⟨_, rfl, t, _, _, _, rfl, rfl, hT3, rfl, one_sz (by show 1 ≤ 1000; decide), fun D hD => ?_⟩
    exact q D _ (Fr.new hD) hD upd_same
  case lt x a b =>
    obtain ⟨t', va, vb, e, hT3, da, db⟩ := inv_lt hd
    cases e
    have ok := O.ok
    have rd := O.rd
    have wid := O.wid
    have sz := O.sz
    simp only [Part.ok, rdIn, Part.wid, Part.size, Part.dep] at ok rd wid sz hn
    have sa := size_pos a
    have sb := size_pos b
    have wa := wt_ok U a fs O.fw rd.1
    have wb := wt_ok U b fs O.fw rd.2
    have la := ris_len wa.1 wa.2
    have lb := ris_len wb.1 wb.2
    refine ⟨_, rfl, rfl, _, rfl, ifF (by kernel_rfl) ?_⟩
    refine ⟨_, rfl, rfl, _, rfl, ifT (by kernel_rfl) ?_⟩
    refine ⟨_, rfl, p, dx, _, rfl, hp, rfl, _, rfl, t, _, _, _, rfl, rfl, hT3, rfl, _, rfl, p, dx, vb, af, b, U, ns ++ [x], fa, fs, kvs, rfl, hp, db, F, ⟨ok.2.2, rd.2, O.fw, O.has, O.u, by omega, by omega⟩, by omega, fun L H1 f1 hL eL => ?_⟩
    refine ⟨L, rfl, ⟨_, SqL.of eL⟩, ?_⟩
    refine filt_lc (tst := fun y => decide (y ∉ [x])) (by show 7 < 8; decide) (SqL.of eL) (by omega) (fun y H' Q' f' hq => ?_) fun M H2 hM eM f2 => ?_
    · refine ⟨_, rfl, _, rfl, t, _, _, _, rfl, rfl, (f1.trans f').sqT hT3, rfl, rfl, _, rfl, ?_⟩
      have e : (!decide (V.str y = V.str x)) = decide (y ∉ [x]) := by
        by_cases z : y = x
        · subst z; simp
        · rw [decide_eq_false (fun k => z (V.str.inj k)), decide_eq_true (by simpa using z)]; rfl
      rw [e]; exact hq
    · have f02 := f1.trans f2
      have hp2 := f02.at hp (fun z => z)
      refine ⟨_, rfl, p, dx, _, rfl, hp2, rfl, _, rfl, t, _, _, _, rfl, rfl, f02.sqT hT3, rfl, _, rfl, p, dx, va, af, a, U, ns, fa, fs, kvs, rfl, hp2, Dp.fr f02 _ _ (tup_enc a) da, F.fr f02, ⟨ok.2.1, rd.1, O.fw, O.has, O.u, by omega, by omega⟩, by omega, fun D H3 f3 hD eD => ?_⟩
      have lo : (outP [x] (wt b fs)).length ≤ (wt b fs).length := List.length_filter_le _ _
      refine ⟨_, rfl, D, M, _, _, rfl, rfl, eD, f3.at eM (fun z => z), Nat.le_of_lt (sz_lt' (by rw [List.length_map, List.length_map]; show (wt a fs).length + (outP [x] (wt b fs)).length ≤ _; omega)), fun N hN => ?_⟩
      have f4 : Fr c0 H3 (upd H3 N (.lst ((wt a fs).map V.str ++ (outP [x] (wt b fs)).map V.str))) := Fr.new hN
      have f04 := (f02.trans f3).trans f4
      refine sort_set (K := K) (xs := wt a fs ++ outP [x] (wt b fs)) (U := U) (by rw [List.map_append]; exact upd_same) (fun y hy => ?_) (by omega) (by rw [List.length_append]; omega) fun D2 H5 f5 hD2 eD2 => q D2 H5 (f04.trans f5) (f04.free _ hD2) (by simp only [wt]; exact eD2)
      rcases List.mem_append.mp hy with z | z
      · exact wa.2 y z
      · exact wb.2 y (mem_outP.mp z).1
  case fn f ps b r =>
    obtain ⟨t', tp, vb, vr, e, hT3, hTp, db, dr⟩ := inv_fn hd
    cases e
    have ok := O.ok
    have rd := O.rd
    have wid := O.wid
    have sz := O.sz
    have k := kn_ok (ps := ps) O.fw O.rd.1
    simp only [Part.ok, rdIn, Part.wid, Part.size, Part.dep] at ok rd wid sz hn
    have sb := size_pos b
    refine ⟨_, rfl, rfl, _, rfl, ifF (by kernel_rfl) ?_⟩
    refine ⟨_, rfl, rfl, _, rfl, ifF (by kernel_rfl) ?_⟩
    refine ⟨_, rfl, rfl, _, rfl, ifT (by kernel_rfl) ?_⟩
    refine ⟨_, rfl, p, dx, _, rfl, hp, rfl, _, rfl, t, _, _, _, rfl, rfl, hT3, rfl, _, rfl, p, dx, _, rfl, hp, rfl, _, rfl, _, rfl, p, dx, .ref t, af, f, ps, b, r, U, ns, fa, fs, kvs, rfl, hp, hd, F, O, by omega, fun D L H1 f1 hD hL eD eL => ?_⟩
    have pk := putK_le kvs (Sum.inr f) (.ref L)
    have F1 : FsAt K H1 D (putK kvs (Sum.inr f) (.ref L)) (putN fs f (kn ps b fs)) := ⟨eD, fun g M eg => by
      rw [valV_put]
      unfold putN at eg
      by_cases z : g = f
      · rw [if_pos z] at eg; cases eg
        rw [if_pos (by rw [z])]; exact ⟨L, rfl, eL⟩
      · rw [if_neg z] at eg
        rw [if_neg (by simpa using z)]
        exact (F.fr f1).at_ g M eg⟩
    refine ⟨p, dx, vr, D, r, U, ns, putN fa f ps.length, putN fs f (kn ps b fs), _, rfl, f1.at hp (fun z => z), Dp.fr f1 _ _ (tup_enc r) dr, F1, ⟨ok.2.2.2.2.2, rd.2, O.fw.put k.1 k.2, fun g m eg => ?_, O.u, by omega, by omega⟩, by omega, fun D2 H2 f2 hD2 e2 => q D2 H2 (f1.trans f2) (f1.free _ hD2) (by simp only [wt]; exact e2)⟩
    unfold putN at eg ⊢
    by_cases z : g = f
    · rw [if_pos z]; rfl
    · rw [if_neg z] at eg ⊢; exact O.has g m eg
  case call f as =>
    obtain ⟨t', ta, ws, e, hT3, hA, da⟩ := inv_call hd
    cases e
    have ok := O.ok
    simp only [Part.ok] at ok
    obtain ⟨M, hM⟩ := Option.isSome_iff_exists.mp (O.has f _ ok.1)
    obtain ⟨a, h1, h2⟩ := F.at_ f M hM
    have fm := O.fw f M hM
    have lm := ris_len fm.1 fm.2
    refine ⟨_, rfl, rfl, _, rfl, ifF (by kernel_rfl) ?_⟩
    refine ⟨_, rfl, rfl, _, rfl, ifF (by kernel_rfl) ?_⟩
    refine ⟨_, rfl, rfl, _, rfl, ifF (by kernel_rfl) ?_⟩
    refine ⟨_, rfl, rfl, _, rfl, ifT (by kernel_rfl) ?_⟩
    refine ⟨_, rfl, _, rfl, t, _, _, _, rfl, rfl, hT3, rfl, af, _, rfl, .inl ⟨kvs, Sum.inr f, .inl F.d, rfl, h1.symm⟩, a, _, rfl, .inl (SqL.of h2), fun L hL => ?_⟩
    have f1 : Fr c0 H (upd H L (.lst (M.map V.str))) := Fr.new hL
    refine wants_tail (pt := .call f as) f1 hL upd_same fm.2 (by omega) (f1.at hp (fun z => z)) (Dp.fr f1 _ _ (tup_enc _) hd) F O hn rfl fun D H' f' hD e => q D H' f' hD ?_
    rw [wt_flat rfl (fun x z => by cases z)]
    simp only [callL, hM, Option.getD_some]
    exact e
  case num m =>
    refine ⟨_, rfl, rfl, _, rfl, ifF (by kernel_rfl) ?_⟩
    refine ⟨_, rfl, rfl, _, rfl, ifF (by kernel_rfl) ?_⟩
    refine ⟨_, rfl, rfl, _, rfl, ifF (by kernel_rfl) ?_⟩
    refine ⟨_, rfl, rfl, _, rfl, ifF (by kernel_rfl) ⟨one_sz (Nat.zero_le _), fun L hL => ?_⟩⟩
    exact tail0 rfl (fun f as z => by cases z) (fun x z => by cases z) L hL
  all_goals
    refine ⟨_, rfl, rfl, _, rfl, ifF (by kernel_rfl) ?_⟩
    refine ⟨_, rfl, rfl, _, rfl, ifF (by kernel_rfl) ?_⟩
    refine ⟨_, rfl, rfl, _, rfl, ifF (by kernel_rfl) ?_⟩
    refine ⟨_, rfl, rfl, _, rfl, ifF (by kernel_rfl) ⟨one_sz (Nat.zero_le _), fun L hL => ?_⟩⟩
    exact tail0 rfl (fun f as z => by cases z) (fun x z => by cases z) L hL
end BN
namespace BN
open PySem L2 PyProof.Rows
/-! ### made, handed -/
theorem catA_run {K : PySem.W.Frag} {H : Hp} {a b : Addr} {xs ys : List V} {Q : VK} (ha : SqT K H a xs) (hb : SqT K H b ys) (hl : xs.length + ys.length ≤ 200000) (q : ∀ c H', Fr c0 H H' → SqT K H' c (xs ++ ys) → Q (.ref c) H') : rCatA K (.ref a) (.ref b) H Q := by
  refine ⟨a, b, xs, ys, rfl, rfl, ha, hb, Nat.le_of_lt (sz_lt' hl), fun hx => ?_, fun _ hy => ?_, fun _ _ c hc => ?_⟩
  · exact q b H (Fr.refl _) (by rw [hx]; exact hb)
  · exact q a H (Fr.refl _) (by rw [hy, List.append_nil]; exact ha)
  · exact q c _ (Fr.new hc) (SqT.of upd_same)
def spHMade (K : PySem.W.Frag) (C : Addr) (n : Nat) : Sp := fun vs H Q _ => ∃ (p dx : Addr) (v : V) (af : Addr) (pt : Part) (U ns : List Str) (fa : FE0) (fs : FW) (kvs : List (Key × V)), vs = [.ref p, v, .ref af] ∧
  H p = some (.ins C dx []) ∧ Dp K H v pt.enc ∧ FsAt K H af kvs fs ∧ WtOk U pt ns fa fs kvs ∧ fitH pt fs ∧ pt.dep ≤ n ∧ pt.dep ≤ 19 ∧
  ∀ v' H', Fr c0 H H' → Dp K H' v' (hm pt fs).enc → Q v' H'
theorem hmL_enc (l : List Part) (fs : FW) : tupDs ((hmL l fs).map Part.enc) = true := tupDs_all fun d hd => by
  obtain ⟨q, _, rfl⟩ := List.mem_map.mp hd
  exact tup_enc q
theorem hmade_lc {K : PySem.W.Frag} {C p dx af : Addr} {n : Nat} {ta : Addr} {ws : List V} {l : List Part} {U ns : List Str} {fa : FE0} {fs : FW} {kvs : List (Key × V)} {H1 : Hp} {te : TE} {σ : L2.St} {Q : Addr → Hp → Prop}
    (hte : ∀ x H' Q, H' p = some (.ins C dx []) → spHMade K C n [.ref p, x, .ref af] H' Q C8.E0 → te ((wipe σ [8]).set 8 (some x)) H' Q)
    (hA : SqT K H1 ta ws) (da : DpAll K H1 ws (l.map Part.enc)) (hp : H1 p = some (.ins C dx [])) (F : FsAt K H1 af kvs fs) (O : ∀ q ∈ l, WtOk U q ns fa fs kvs ∧ fitH q fs ∧ q.dep ≤ n ∧ q.dep ≤ 19) (hl : l.length ≤ 100000)
    (hq : ∀ D vs H', H1 D = none → H' D = some (.lst vs) → DpAll K H' vs ((hmL l fs).map Part.enc) → Fr c0 H1 H' → Q D H') : ∀ D, H1 D = none →
    ∃ W : Nat → Nat → Hp → Prop, (∃ m, W 0 m (upd H1 D (.lst []))) ∧ ∀ i m H, W i m H →
      ((Itt K ta).stop i H ∧ Q D H) ∨ ((Itt K ta).go i H ∧ ∃ Nx : Hp → Prop, (∀ H', Nx H' → ∃ m', m' < m ∧ W (i + 1) m' H') ∧ ∀ x H', (Itt K ta).yld i H x H' → gName 8 x (wipe σ [8]) H' fun σ2 H2 => wipe σ2 [8] = wipe σ [8] ∧ tYes σ2 H2 fun b H3 =>
        if b = true then te σ2 H3 fun y H4 => ∃ acc, H4 D = some (.lst acc) ∧ acc.length < sizeLine ∧ Nx (upd H4 D (.lst (acc ++ [y]))) else Nx H3) := by
  have lw : ws.length = l.length := by rw [da.len, List.length_map]
  refine lcG_tup (K := K) (C := c0) (I := fun _ => True) (Good := fun i d => ∃ q, l[i]? = some q ∧ d = (hm q fs).enc) hA (fun _ _ _ _ _ => trivial) (fun _ _ _ z => z) trivial (by omega) ?_ ?_
  · intro i x hx H' f _ Q' hQ'
    obtain ⟨dd, hdd, Dx⟩ := da.getV hx
    obtain ⟨q, hqi, rfl⟩ := map_at hdd
    obtain ⟨o1, o2, o3, o4⟩ := O q (List.mem_of_getElem? hqi)
    have hp' := f.at hp (fun z => z)
    exact hte x H' Q' hp' ⟨p, dx, x, af, q, U, ns, fa, fs, kvs, rfl, hp', Dp.fr f _ _ (tup_enc q) Dx, F.fr f, o1, o2, o3, o4, fun v' H2 f2 d2 => hQ' _ v' H2 ⟨q, hqi, rfl⟩ (tup_enc _) d2 f2 trivial⟩
  · intro D vs ds H' hD eD dD ld gd f _
    have ed : ds = (hmL l fs).map Part.enc := by
      refine List.ext_getElem? fun j => ?_
      by_cases hj : j < l.length
      · obtain ⟨d, hd⟩ := get_lt (l := ds) (i := j) (by omega)
        obtain ⟨q, hq1, hq2⟩ := (gd j d hd).1
        unfold hmL
        rw [hd, hq2, List.getElem?_map, List.getElem?_map, hq1]; rfl
      · rw [List.getElem?_eq_none (by omega), List.getElem?_eq_none (by simp [hmL]; omega)]
    subst ed
    exact hq D vs H' hD eD dD f
theorem fit_inner {fs : FW} : ∀ {p : Part}, flatP p = true → fitH p fs → ∀ q ∈ p.inner, fitH q fs := by
  intro p hf h q hq
  have lst : ∀ as : Parts, fitHs as fs → ∀ q ∈ as.list, fitH q fs := fun as => by
    induction as using Parts.rec (motive_1 := fun _ => True) with
    | nil => intro _ q hq; cases hq
    | cons p r _ ih =>
      intro h q hq
      simp only [fitHs] at h
      rcases List.mem_cons.mp (by simpa [Parts.list] using hq : q ∈ p :: r.list) with rfl | z
      · exact h.1
      · exact ih h.2 q z
    | _ => trivial
  cases p <;> simp only [Part.inner, List.mem_cons, List.not_mem_nil, or_false] at hq <;> simp only [fitH] at h
  · rcases hq with rfl | rfl
    · exact h.1
    · exact h.2
  · rcases hq with rfl | rfl
    · exact h.1
    · exact h.2
  · rcases hq with rfl | rfl | rfl
    · exact h.1
    · exact h.2.1
    · exact h.2.2
  · subst hq; exact h
  · simp [flatP] at hf
  · simp [flatP] at hf
  · exact lst _ h q hq
theorem inner_ok {U : List Str} {pt q : Part} {ns : List Str} {fa : FE0} {fs : FW} {kvs : List (Key × V)} {n : Nat} (O : WtOk U pt ns fa fs kvs) (ft : fitH pt fs) (hf : flatP pt = true) (hn : pt.dep ≤ n + 1) (h19 : pt.dep ≤ 19) (hq : q ∈ pt.inner) : WtOk U q ns fa fs kvs ∧ fitH q fs ∧ q.dep ≤ n ∧ q.dep ≤ 19 := by
  have h1 := dep_inner pt q hq
  have h2 := wid_inner pt q hq
  have o1 := O.wid
  have o2 := O.sz
  have h3 : q.size ≤ pt.size := by
    obtain ⟨i, hi⟩ := List.getElem?_of_mem hq
    have h3 := sizesL_le pt.inner (i + 1)
    rw [sizesL_more hi] at h3
    have h4 := size_inner pt
    omega
  exact ⟨⟨flat_in hf O.ok q hq, rdIn_inner O.rd q hq, O.fw, O.has, O.u, by omega, by omega⟩, fit_inner hf ft q hq, by omega, by omega⟩
theorem hm4_enc {p : Part} (h : flat4 p = true) (fs : FW) : (hm p fs).enc = .tuple (.str p.word :: (hmL p.inner fs).map Part.enc) := by
  cases p <;> simp [flat4] at h <;> rfl
theorem hmade_tail {K : PySem.W.Frag} {C p dx af t : Addr} {n : Nat} {pt : Part} {U ns : List Str} {fa : FE0} {fs : FW} {kvs : List (Key × V)} {H : Hp} {Q : VK} (h4 : flat4 pt = true)
    (hp : H p = some (.ins C dx [])) (hd : Dp K H (.ref t) pt.enc) (F : FsAt K H af kvs fs) (O : WtOk U pt ns fa fs kvs) (ft : fitH pt fs) (hn : pt.dep ≤ n + 1) (h19 : pt.dep ≤ 19)
    (q : ∀ v' H', Fr c0 H H' → Dp K H' v' (hm pt fs).enc → Q v' H') :
    (tRet (tOp (rCatT K) (tTup (tCons (tVar 3) tNil)) (tCB (rTupSq K) (tCons (tLc (iTup K (tSl (rSlT K) (tVar 1) (tPart (tC (.int 1))) tNoPart)) (gName 8) tYes (tMeth C "made" (spHMade K C n) [] C8.E0 (tVar 0) (tCons (tVar 8) (tCons (tVar 2) tNil))) [8]) tNil))))
      { nx := fun _ H' => Q .non H', rt := Q } [some (.ref p), some (.ref t), some (.ref af), some (.str pt.word), none, none, none, none, none] H := by
  obtain ⟨e1, _, e3, e4, _⟩ := flat4_enc h4
  rw [e1] at hd
  obtain ⟨t', xs, et, hT, ha⟩ := hd.tup_inv
  cases et
  obtain ⟨ws, rfl, hws⟩ : ∃ ws, xs = .str pt.word :: ws ∧ DpAll K H ws (pt.inner.map Part.enc) := by
    cases ha with
    | cons hw hws => cases hw; exact ⟨_, rfl, hws⟩
  have lw : ws.length = pt.inner.length := by rw [hws.len, List.length_map]
  have lw1 : ws ≠ [] := fun z => e3 (List.length_eq_zero_iff.mp (by rw [← lw, z]; rfl))
  refine ⟨_, rfl, one_sz (by show 1 ≤ 1000; decide), fun t1 ht1 => ?_⟩
  have f1 : Fr c0 H (upd H t1 (.tup [.str pt.word])) := Fr.new ht1
  have hT1 : (upd H t1 (.tup [.str pt.word])) t1 = some (.tup [.str pt.word]) := upd_same
  have hTt := f1.sqT hT
  generalize (upd H t1 (.tup [.str pt.word])) = H1 at f1 hT1 hTt ⊢
  refine ⟨_, rfl, _, rfl, t, _, rfl, hTt, ?_, fun t2 ht2 => ?_⟩
  · intro z
    have := z.1
    have e : HT.sIx (V.str pt.word :: ws).length 0 (some 1) = min 1 (V.str pt.word :: ws).length := HT.sIx_nat _ _ 1
    rw [e] at this
    simp at this
  have ec : cutV (V.str pt.word :: ws) (some 1) none = ws := by
    have l1 : (V.str pt.word :: ws).length = ws.length + 1 := rfl
    show ((V.str pt.word :: ws).drop (HT.sIx _ 0 (some 1))).take _ = ws
    rw [show HT.sIx (V.str pt.word :: ws).length 0 (some 1) = min 1 (V.str pt.word :: ws).length from HT.sIx_nat _ _ 1, HT.sIx_none, l1, show min 1 (ws.length + 1) = 1 by omega]
    simp
  rw [ec]
  have f2 : Fr c0 H1 (upd H1 t2 (.tup ws)) := Fr.new ht2
  have f12 := f1.trans f2
  refine ⟨t2, rfl, ⟨ws, SqT.of upd_same⟩, ?_⟩
  refine hmade_lc (n := n) (l := pt.inner) (fun x H' Q' hp' h => ⟨_, rfl, p, dx, _, rfl, hp', rfl, _, rfl, _, rfl, h⟩) (SqT.of upd_same) (Dp.sms f12 _ _ hws) (f12.at hp (fun z => z)) (F.fr f12) (fun q' hq => inner_ok O ft (flat4_flat h4) hn h19 hq) (by omega) fun D vs H3 hD eD dD f3 => ?_
  have lv : vs.length = ws.length := by rw [dD.len, List.length_map]; simp [hmL, lw]
  refine ⟨D, _, rfl, .inl ⟨SqL.of eD, fun t3 ht3 => ?_⟩⟩
  have f4 : Fr c0 H3 (upd H3 t3 (.tup vs)) := Fr.new ht3
  have hT4 : (upd H3 t3 (.tup vs)) t1 = some (.tup [.str pt.word]) := (f3.trans f4).tup (f2.tup hT1)
  refine ⟨t1, t3, _, _, rfl, rfl, SqT.of hT4, SqT.of upd_same, (fun z => by cases z), one_sz (by rw [lv, lw]; show 1 + _ ≤ 1000; omega), fun z => absurd (by rw [z] at lv; exact List.length_eq_zero_iff.mp lv.symm) lw1, fun _ t5 ht5 => ?_⟩
  have f5 : Fr c0 (upd H3 t3 (.tup vs)) (upd (upd H3 t3 (.tup vs)) t5 (.tup ([.str pt.word] ++ vs))) := Fr.new ht5
  have f35 := f4.trans f5
  refine q _ _ ((f12.trans f3).trans f35) ?_
  rw [hm4_enc h4]
  exact .tup (SqT.of upd_same) (.cons (.str _) (Dp.frs f35 _ _ (hmL_enc _ _) dD))
theorem Dp.ofs {K : PySem.W.Frag} {H : Hp} : ∀ {l : List Part} {vs : List V}, DpAll K H vs (l.map Part.enc) → DpAll K H vs (Parts.of l).encs := fun {l vs} h => by rw [Parts.encs_of]; exact h
def t_hmade (K : PySem.W.Frag) (cHan : Addr) (n : Nat) : TS :=
  (tSeq (tAsg (tOp (rIxT K) (tVar 1) (tC (.int 0))) (gName 3))
    (tSeq (tIfS (tTest (tOp (rIn K false) (tVar 3) (tTup (tCons (tC (.str "num")) (tCons (tC (.str "name")) tNil))))) (tRet (tVar 1)) tNext)
    (tSeq (tIfS (tTest (tOp rEq (tVar 3) (tC (.str "let")))) (tRet (tTup (tCons (tC (.str "let")) (tCons (tOp (rIxT K) (tVar 1) (tC (.int 1))) (tCons (tMeth cHan "made" (spHMade K cHan n) [] C8.E0 (tVar 0) (tCons (tOp (rIxT K) (tVar 1) (tC (.int 2))) (tCons (tVar 2) tNil))) (tCons (tMeth cHan "made" (spHMade K cHan n) [] C8.E0 (tVar 0) (tCons (tOp (rIxT K) (tVar 1) (tC (.int 3))) (tCons (tVar 2) tNil))) tNil)))))) tNext)
    (tSeq (tIfS (tTest (tOp rEq (tVar 3) (tC (.str "fun")))) (tSeq (tAsg (tMeth cHan "known" (spKnown K cHan 40) [] C8.E0 (tVar 0) (tCons (tVar 1) (tCons (tVar 2) tNil))) (gName 4))
    (tSeq (tAsg (tOp (rCatA K) (tOp (rIxT K) (tVar 1) (tC (.int 2))) (tCB (rTupSq K) (tCons (tDGet (tVar 4) (tOp (rIxT K) (tVar 1) (tC (.int 1)))) tNil))) (gName 5))
    (tSeq (tIfS (tTest (tOp oGt (tCB (rLenSq K) (tCons (tVar 5) tNil)) (tC (.int 12)))) tNever tNext)
    (tRet (tTup (tCons (tC (.str "fun")) (tCons (tOp (rIxT K) (tVar 1) (tC (.int 1))) (tCons (tVar 5) (tCons (tMeth cHan "made" (spHMade K cHan n) [] C8.E0 (tVar 0) (tCons (tOp (rIxT K) (tVar 1) (tC (.int 3))) (tCons (tVar 2) tNil))) (tCons (tMeth cHan "made" (spHMade K cHan n) [] C8.E0 (tVar 0) (tCons (tOp (rIxT K) (tVar 1) (tC (.int 4))) (tCons (tVar 4) tNil))) tNil)))))))))) tNext)
    (tSeq (tIfS (tTest (tOp rEq (tVar 3) (tC (.str "call")))) (tSeq (tAsg (tCB (rTupSq K) (tCons (tLc (iList K (tDGet (tVar 2) (tOp (rIxT K) (tVar 1) (tC (.int 1))))) (gName 7) tYes (tTup (tCons (tC (.str "name")) (tCons (tVar 7) tNil))) [7]) tNil)) (gName 6))
    (tRet (tTup (tCons (tC (.str "call")) (tCons (tOp (rIxT K) (tVar 1) (tC (.int 1))) (tCons (tOp (rCatA K) (tCB (rTupSq K) (tCons (tLc (iTup K (tOp (rIxT K) (tVar 1) (tC (.int 2)))) (gName 8) tYes (tMeth cHan "made" (spHMade K cHan n) [] C8.E0 (tVar 0) (tCons (tVar 8) (tCons (tVar 2) tNil))) [8]) tNil)) (tVar 6)) tNil)))))) tNext)
    (tRet (tOp (rCatT K) (tTup (tCons (tVar 3) tNil)) (tCB (rTupSq K) (tCons (tLc (iTup K (tSl (rSlT K) (tVar 1) (tPart (tC (.int 1))) tNoPart)) (gName 8) tYes (tMeth cHan "made" (spHMade K cHan n) [] C8.E0 (tVar 0) (tCons (tVar 8) (tCons (tVar 2) tNil))) [8]) tNil)))))))))
theorem pure_hmade {K : PySem.W.Frag} {C : Addr} {n : Nat} (vs : List V) (H : Hp) (Q : VK) (E : XK) (h : spHMade K C (n + 1) vs H Q E) :
    t_hmade K C n { nx := fun _ H' => Q .non H', rt := Q } (start ["self", "part", "funs", "word", "known", "params", "more", "name", "one"] vs) H := by
  obtain ⟨p, dx, v, af, pt, U, ns, fa, fs, kvs, rfl, hp, hd, F, O, ft, hn, h19, q⟩ := h
  obtain ⟨t, xs, rfl, hT, hx⟩ := inv_head hd
  refine ⟨_, rfl, t, _, _, _, rfl, rfl, hT, atI_nat (j := 0) rfl, ?_⟩
  refine ⟨_, rfl, one_sz (by show 2 ≤ 1000; decide), fun u1 hu1 => ⟨u1, _, rfl, .inr (SqT.of upd_same), rfl, rfl, _, rfl, ?_⟩⟩
  have f1 : Fr c0 H (upd H u1 (.tup [.str "num", .str "name"])) := Fr.new hu1
  have hp1 := f1.at hp (fun z => z)
  have hd1 := Dp.fr f1 _ _ (tup_enc pt) hd
  have F1 := F.fr f1
  have hT1 := f1.sqT hT
  have q1 : ∀ v' H', Fr c0 (upd H u1 (.tup [.str "num", .str "name"])) H' → Dp K H' v' (hm pt fs).enc → Q v' H' := fun v' H' f d => q v' H' (f1.trans f) d
  have ou := O.u
  generalize (upd H u1 (.tup [.str "num", .str "name"])) = H1 at f1 hp1 hd1 F1 hT1 q1 ⊢
  cases pt
  case num m => exact ifT (by kernel_rfl) ⟨_, rfl, q1 _ _ (Fr.refl _) hd1⟩
  case name m => exact ifT (by kernel_rfl) ⟨_, rfl, q1 _ _ (Fr.refl _) hd1⟩
  case lt x a b =>
    obtain ⟨t', va, vb, e, hT3, da, db⟩ := inv_lt hd1
    cases e
    have ok := O.ok
    have rd := O.rd
    have wid := O.wid
    have sz := O.sz
    simp only [Part.ok, rdIn, Part.wid, Part.size, Part.dep, fitH] at ok rd wid sz hn h19 ft
    have sa := size_pos a
    have sb := size_pos b
    refine ifF (by kernel_rfl) ?_
    refine ⟨_, rfl, rfl, _, rfl, ifT (by kernel_rfl) ?_⟩
    refine ⟨_, rfl, t, _, _, _, rfl, rfl, hT3, rfl, _, rfl, p, dx, _, rfl, hp1, rfl, _, rfl, t, _, _, _, rfl, rfl, hT3, rfl, _, rfl, p, dx, va, af, a, U, ns, fa, fs, kvs, rfl, hp1, da, F1, ⟨ok.2.1, rd.1, O.fw, O.has, O.u, by omega, by omega⟩, ft.1, by omega, by omega, fun w1 H2 f2 d2 => ?_⟩
    have hp2 := f2.at hp1 (fun z => z)
    refine ⟨_, rfl, p, dx, _, rfl, hp2, rfl, _, rfl, t, _, _, _, rfl, rfl, f2.sqT hT3, rfl, _, rfl, p, dx, vb, af, b, U, ns ++ [x], fa, fs, kvs, rfl, hp2, Dp.fr f2 _ _ (tup_enc b) db, F1.fr f2, ⟨ok.2.2, rd.2, O.fw, O.has, O.u, by omega, by omega⟩, ft.2, by omega, by omega, fun w2 H3 f3 d3 => ?_⟩
    refine ⟨one_sz (by show 4 ≤ 1000; decide), fun u hu => ?_⟩
    have f4 : Fr c0 H3 (upd H3 u (.tup [.str "let", .str x, w1, w2])) := Fr.new hu
    refine q1 _ _ ((f2.trans f3).trans f4) ?_
    simp only [hm, Part.enc]
    exact .tup (SqT.of upd_same) (.cons (.str _) (.cons (.str _) (.cons (Dp.fr (f3.trans f4) _ _ (tup_enc _) d2) (.cons (Dp.fr f4 _ _ (tup_enc _) d3) .nil))))
  case fn f ps b r =>
    obtain ⟨t', tp, vb, vr, e, hT3, hTp, db, dr⟩ := inv_fn hd1
    cases e
    have ok := O.ok
    have rd := O.rd
    have wid := O.wid
    have sz := O.sz
    have k := kn_ok (ps := ps) O.fw O.rd.1
    have lk := ris_len k.1 k.2
    simp only [Part.ok, rdIn, Part.wid, Part.size, Part.dep, fitH] at ok rd wid sz hn h19 ft
    have sb := size_pos b
    have sr := size_pos r
    refine ifF (by kernel_rfl) ?_
    refine ⟨_, rfl, rfl, _, rfl, ifF (by kernel_rfl) ?_⟩
    refine ⟨_, rfl, rfl, _, rfl, ifT (by kernel_rfl) ?_⟩
    refine ⟨_, rfl, p, dx, _, rfl, hp1, rfl, _, rfl, _, rfl, p, dx, .ref t, af, f, ps, b, r, U, ns, fa, fs, kvs, rfl, hp1, hd1, F1, O, by omega, fun D L H2 f2 hD hL eD eL => ?_⟩
    have pk := putK_le kvs (Sum.inr f) (.ref L)
    have eg : valV (putK kvs (Sum.inr f) (.ref L)) (Sum.inr f) = some (.ref L) := by rw [valV_put, if_pos rfl]
    have F2 : FsAt K H2 D (putK kvs (Sum.inr f) (.ref L)) (putN fs f (kn ps b fs)) := ⟨eD, fun g M eg => by
      rw [valV_put]
      unfold putN at eg
      by_cases z : g = f
      · rw [if_pos z] at eg; cases eg
        rw [if_pos (by rw [z])]; exact ⟨L, rfl, eL⟩
      · rw [if_neg z] at eg
        rw [if_neg (by simpa using z)]
        exact (F1.fr f2).at_ g M eg⟩
    refine ⟨_, rfl, t, _, _, _, rfl, rfl, f2.sqT hT3, rfl, _, rfl, _, rfl, t, _, _, _, rfl, rfl, f2.sqT hT3, rfl, D, _, rfl, .inl ⟨_, Sum.inr f, .inl eD, rfl, eg.symm⟩, L, _, rfl, .inl ⟨SqL.of eL, fun tk htk => ?_⟩⟩
    have f3 : Fr c0 H2 (upd H2 tk (.tup ((kn ps b fs).map V.str))) := Fr.new htk
    refine catA_run (f3.sqT (f2.sqT hTp)) (SqT.of upd_same) (by rw [List.length_map, List.length_map]; omega) fun tr H4 f4 hr => ?_
    rw [← List.map_append] at hr
    have f24 := f3.trans f4
    have f14 := f2.trans f24
    have hl12 : ((ps ++ kn ps b fs).map V.str).length ≤ 12 := by rw [List.length_map]; exact ft.1
    refine ⟨_, rfl, tr, _, rfl, .inr hr, _, _, rfl, rfl, _, rfl, ifF (decide_eq_false (by omega)) ?_⟩
    have hp4 := f14.at hp1 (fun z => z)
    refine ⟨_, rfl, t, _, _, _, rfl, rfl, f14.sqT hT3, rfl, _, rfl, _, rfl, p, dx, _, rfl, hp4, rfl, _, rfl, t, _, _, _, rfl, rfl, f14.sqT hT3, rfl, _, rfl, p, dx, vb, af, b, U, ns ++ ps, fa, fs, kvs, rfl, hp4, Dp.fr f14 _ _ (tup_enc b) db, F1.fr f14, ⟨ok.2.2.2.2.1, rd.1, O.fw, O.has, O.u, by omega, by omega⟩, ft.2.1, by omega, by omega, fun w1 H5 f5 d5 => ?_⟩
    have f15 := f14.trans f5
    have hp5 := f15.at hp1 (fun z => z)
    refine ⟨_, rfl, p, dx, _, rfl, hp5, rfl, _, rfl, t, _, _, _, rfl, rfl, f15.sqT hT3, rfl, _, rfl, p, dx, vr, D, r, U, ns, putN fa f ps.length, putN fs f (kn ps b fs), _, rfl, hp5, Dp.fr f15 _ _ (tup_enc r) dr, F2.fr (f24.trans f5), ⟨ok.2.2.2.2.2, rd.2, O.fw.put k.1 k.2, fun g m eg => ?_, O.u, by omega, by omega⟩, ft.2.2, by omega, by omega, fun w2 H6 f6 d6 => ?_⟩
    · unfold putN at eg ⊢
      by_cases z : g = f
      · rw [if_pos z]; rfl
      · rw [if_neg z] at eg ⊢; exact O.has g m eg
    · refine ⟨one_sz (by show 5 ≤ 1000; decide), fun u hu => ?_⟩
      have f7 : Fr c0 H6 (upd H6 u (.tup [.str "fun", .str f, .ref tr, w1, w2])) := Fr.new hu
      refine q1 _ _ ((f15.trans f6).trans f7) ?_
      simp only [hm, Part.enc]
      exact .tup (SqT.of upd_same) (.cons (.str _) (.cons (.str _) (.cons (.tup (((f5.trans f6).trans f7).sqT hr) (DpAll.strs _)) (.cons (Dp.fr (f6.trans f7) _ _ (tup_enc _) d5) (.cons (Dp.fr f7 _ _ (tup_enc _) d6) .nil)))))
  case call f as =>
    obtain ⟨t', ta, ws, e, hT3, hA, da⟩ := inv_call hd1
    cases e
    have ok := O.ok
    simp only [Part.ok] at ok
    obtain ⟨M, hM⟩ := Option.isSome_iff_exists.mp (O.has f _ ok.1)
    obtain ⟨a, h1, h2⟩ := F1.at_ f M hM
    have fm := O.fw f M hM
    have lm := ris_len fm.1 fm.2
    have wid := O.wid
    have wid2 : as.len ≤ 100 := by simp only [Part.wid] at wid; omega
    refine ifF (by kernel_rfl) ?_
    refine ⟨_, rfl, rfl, _, rfl, ifF (by kernel_rfl) ?_⟩
    refine ⟨_, rfl, rfl, _, rfl, ifF (by kernel_rfl) ?_⟩
    refine ⟨_, rfl, rfl, _, rfl, ifT (by kernel_rfl) ?_⟩
    refine ⟨_, rfl, _, rfl, t, _, _, _, rfl, rfl, hT3, rfl, af, _, rfl, .inl ⟨kvs, Sum.inr f, .inl F1.d, rfl, h1.symm⟩, a, rfl, ⟨_, SqL.of h2⟩, ?_⟩
    refine lcG_list (K := K) (C := c0) (I := fun _ => True) (Good := fun i d => ∃ x, M[i]? = some x ∧ d = (Part.name x).enc) (SqL.of h2) (fun _ z => z) (fun _ _ _ _ _ => trivial) (fun _ _ _ z => z) trivial (by rw [List.length_map]; omega) ?_ ?_
    · intro i x hx H' f' _ Q' hQ'
      obtain ⟨y, hy, rfl⟩ := map_at hx
      refine ⟨_, rfl, one_sz (by show 2 ≤ 1000; decide), fun u hu => hQ' _ _ _ ⟨y, hy, rfl⟩ (tup_enc _) ?_ (Fr.new hu) trivial⟩
      simp only [Part.enc]
      exact .tup (SqT.of upd_same) (.cons (.str _) (.cons (.str _) .nil))
    · intro D1 vs1 ds1 H2 hD1 eD1 dD1 ld1 gd1 f2 _
      rw [List.length_map] at ld1
      have ed1 : ds1 = (nmP M).map Part.enc := by
        refine List.ext_getElem? fun j => ?_
        by_cases hj : j < M.length
        · obtain ⟨d, hd⟩ := get_lt (l := ds1) (i := j) (by omega)
          obtain ⟨x, hx1, hx2⟩ := (gd1 j d hd).1
          rw [hd, hx2, List.getElem?_map, List.getElem?_map, hx1]; rfl
        · rw [List.getElem?_eq_none (by omega), List.getElem?_eq_none (by simp; omega)]
      subst ed1
      have ne1 : tupDs ((nmP M).map Part.enc) = true := tupDs_all fun d hd => by
        obtain ⟨q, _, rfl⟩ := List.mem_map.mp hd
        exact tup_enc q
      refine ⟨D1, _, rfl, .inl ⟨SqL.of eD1, fun tm htm => ?_⟩⟩
      have f3 : Fr c0 H2 (upd H2 tm (.tup vs1)) := Fr.new htm
      have hm3 : (upd H2 tm (.tup vs1)) tm = some (.tup vs1) := upd_same
      have dm3 := Dp.frs f3 _ _ ne1 dD1
      have f13 := f2.trans f3
      generalize (upd H2 tm (.tup vs1)) = H3 at f3 hm3 dm3 f13 ⊢
      have lv1 : vs1.length = M.length := by rw [dD1.len]; simp
      refine ⟨_, rfl, t, _, _, _, rfl, rfl, f13.sqT hT3, rfl, _, rfl, t, _, _, _, rfl, rfl, f13.sqT hT3, rfl, ta, rfl, ⟨ws, f13.sqT hA⟩, ?_⟩
      refine hmade_lc (n := n) (l := as.list) (fun x H' Q' hp' h => ⟨_, rfl, p, dx, _, rfl, hp', rfl, _, rfl, _, rfl, h⟩) (f13.sqT hA) (Dp.sms f13 _ _ da) (f13.at hp1 (fun z => z)) (F1.fr f13) (fun q' hq => inner_ok O ft rfl hn h19 hq) (by rw [Parts.list_len]; omega) fun D vs H4 hD eD dD f4 => ?_
      have lv : vs.length = as.len := by rw [dD.len, List.length_map]; simp [hmL, Parts.list_len]
      refine ⟨D, _, rfl, .inl ⟨SqL.of eD, fun t5 ht5 => ?_⟩⟩
      have f5 : Fr c0 H4 (upd H4 t5 (.tup vs)) := Fr.new ht5
      refine ⟨_, rfl, ?_⟩
      refine catA_run (SqT.of upd_same) ((f4.trans f5).sqT (SqT.of hm3)) (by omega) fun tr H6 f6 hr => ?_
      have f46 := f5.trans f6
      refine ⟨one_sz (by show 3 ≤ 1000; decide), fun u hu => ?_⟩
      have f7 : Fr c0 H6 (upd H6 u (.tup [.str "call", .str f, .ref tr])) := Fr.new hu
      refine q1 _ _ (((f13.trans f4).trans f46).trans f7) ?_
      simp only [hm, Part.enc, hM, Option.getD_some, Parts.encs_of, hms_list, List.map_append]
      exact .tup (SqT.of upd_same) (.cons (.str _) (.cons (.str _) (.cons (.tup (f7.sqT hr) ((Dp.frs (f46.trans f7) _ _ (hmL_enc _ _) dD).append (Dp.frs ((f4.trans f46).trans f7) _ _ ne1 dm3))) .nil)))
  all_goals
    refine ifF (by kernel_rfl) ?_
    refine ⟨_, rfl, rfl, _, rfl, ifF (by kernel_rfl) ?_⟩
    refine ⟨_, rfl, rfl, _, rfl, ifF (by kernel_rfl) ?_⟩
    refine ⟨_, rfl, rfl, _, rfl, ifF (by kernel_rfl) ?_⟩
    exact hmade_tail rfl hp1 hd1 F1 O ft hn h19 q1
structure HanC (K : PySem.W.Frag) (C : Addr) : Prop extends BNO.New0 K C where
  cl : Cls K C
def hand0 (ins : List Str) (p : Part) : Part := hm p (fun _ => none)
def spHanded (K : PySem.W.Frag) : Sp := fun vs H Q _ => ∃ (v : V) (ins : List Str) (pt : Part) (U : List Str), vs = [v] ∧ Dp K H v (encP ins pt) ∧ ProgOk ins pt ∧ rdIn U pt ∧ U.length ≤ 30 ∧ fitH pt (fun _ => none) ∧ (hand0 ins pt).size ≤ 200 ∧
  ∀ v' H', Fr c0 H H' → Dp K H' v' (encP ins (hand0 ins pt)) → Q v' H'
def t_handed (K : PySem.W.Frag) (cHan : Addr) : TS :=
  (tSeq (tDrop (tCall (spCheckP K) [] C8.E0 (tCons (tVar 0) tNil)))
    (tSeq (tAsg (tMeth cHan "made" (spHMade K cHan 20) [] C8.E0 (BNO.tNew0 cHan) (tCons (tOp (rIxT K) (tVar 0) (tC (.int 1))) (tCons tDNewK tNil))) (gName 1))
    (tSeq (tIfS (tTest (tOp oGt (tCall (spSize K 20) [] C8.E0 (tCons (tVar 1) tNil)) (tC (.int 200)))) tNever tNext)
    (tRet (tTup (tCons (tOp (rIxT K) (tVar 0) (tC (.int 0))) (tCons (tVar 1) tNil)))))))
theorem pure_handed {K : PySem.W.Frag} {C : Addr} (vs : List V) (H : Hp) (Q : VK) (E : XK) (h : spHanded K vs H Q E) :
    t_handed K C { nx := fun _ H' => Q .non H', rt := Q } (start ["program", "found"] vs) H := by
  obtain ⟨v, ins, pt, U, rfl, hd, O, rd, hu, ft, hs, q⟩ := h
  obtain ⟨t, ti, vp, rfl, hT, hI, dp⟩ := inv_P hd
  have od := O.dep
  have ow := O.wid
  have os := O.sz
  refine ⟨_, rfl, .ref t, ins, pt, rfl, hd, O, fun H0 f0 => ?_⟩
  refine fun p dx np ndx ned => ?_
  have f1 : Fr c0 H0 (upd (upd H0 dx (.own p)) p (.ins C dx [])) := (Fr.new ndx).trans (Fr.new (by rw [upd_ne ned.symm]; exact np))
  have hp1 : (upd (upd H0 dx (.own p)) p (.ins C dx [])) p = some (.ins C dx []) := upd_same
  generalize (upd (upd H0 dx (.own p)) p (.ins C dx [])) = H1 at f1 hp1 ⊢
  have f01 := f0.trans f1
  refine ⟨p, dx, _, rfl, hp1, rfl, _, rfl, t, _, _, _, rfl, rfl, f01.sqT hT, rfl, fun af haf => ?_⟩
  have f2 : Fr c0 H1 (upd H1 af (.dK [])) := Fr.new haf
  have f02 := f01.trans f2
  refine ⟨p, dx, vp, af, pt, U, ins, (fun _ => none), (fun _ => none), [], rfl, f2.at hp1 (fun z => z), Dp.fr f02 _ _ (tup_enc pt) dp, ⟨upd_same, fun g M e => by cases e⟩, ⟨O.ok, rd, (fun g M e => by cases e), (fun g m e => by cases e), hu, by omega, by show 0 + _ ≤ _; omega⟩, ft, by omega, by omega, fun v1 H3 f3 d3 => ?_⟩
  have f03 := f02.trans f3
  have hdp := hm_dep pt (fun _ => none)
  have hwd := hm_wid U pt (fun _ => none) (fun g M e => by cases e) rd
  refine ⟨_, rfl, v1, hand0 ins pt, rfl, d3, by unfold hand0; omega, by unfold hand0; omega, fun H4 f4 => ⟨_, _, rfl, rfl, _, rfl, ifF (decide_eq_false (by omega)) ?_⟩⟩
  · have f04 := f03.trans f4
    refine ⟨_, rfl, t, _, _, _, rfl, rfl, f04.sqT hT, rfl, _, rfl, one_sz (by show 2 ≤ 1000; decide), fun u hu => ?_⟩
    have f5 : Fr c0 H4 (upd H4 u (.tup [.ref ti, v1])) := Fr.new hu
    exact q _ _ (f04.trans f5) (.tup (SqT.of upd_same) (.cons (.tup ((f04.trans f5).sqT hI) (DpAll.strs _)) (.cons (Dp.fr (f4.trans f5) _ _ (tup_enc _) d3) .nil)))
end BN
namespace BN
open PySem L2
/-! ### handed: means the same as called -/
structure So (o o' : Out) : Prop where
  v : o'.v = o.v
  sd : o'.said = o.said
theorem So.rfl' (o : Out) : So o o := ⟨rfl, rfl⟩
theorem So.bnd {a a' : Out} {f f' : Int → Out} (h : So a a') (k : ∀ i, So (f i) (f' i)) : So (a.bnd f) (a'.bnd f') := by
  obtain ⟨h1, h2⟩ := h
  have k' := k a.v
  refine ⟨?_, ?_⟩
  · show (f' a'.v).v = (f a.v).v; rw [h1]; exact k'.v
  · show a'.said ++ (f' a'.v).said = a.said ++ (f a.v).said; rw [h1, h2, k'.sd]
theorem So.ite {c : Prop} [Decidable c] {a a' b b' : Out} (h1 : So a a') (h2 : So b b') : So (if c then a else b) (if c then a' else b') := by
  split
  · exact h1
  · exact h2
abbrev rv (P : List Room) (x : Str) : Int := (rd P x).2
def HsN (W : List Str) (P P' : List Room) : Prop := ∀ x ∈ W, rv P' x = rv P x
def HsF (fa : FE0) (fs : FW) (e e' : SEnv) : Prop := ∀ f n, fa f = some n → ∃ g g' L, e f = some g ∧ e' f = some g' ∧ fs f = some L ∧ ∀ vs P1 dyn', vs.length = n → So (g vs P1) (g' (vs ++ L.map (rv P1)) dyn')
theorem rv_one {P : List Room} {x : Str} {i : Int} : rv (P ++ [[(x, i)]]) x = i := rd_top (n := i) (by simp [List.lookup])
theorem rv_ne {P : List Room} {x y : Str} {i : Int} (h : y ≠ x) : rv (P ++ [[(x, i)]]) y = rv P y := rd_pass fun r hr => by
  rw [List.mem_singleton.mp hr]
  exact lookup_none fun e he z => h (by rw [List.mem_singleton.mp he] at z; exact z.symm)
theorem lookup_zip_app {ps L : List Str} {vs us : List Int} (hl : ps.length = vs.length) (x : Str) : ((ps ++ L).zip (vs ++ us)).lookup x = ((ps.zip vs).lookup x).or ((L.zip us).lookup x) := by
  rw [List.zip_append hl, lookup_app]
theorem lookup_zip_map {L : List Str} {g : Str → Int} {x : Str} (h : x ∈ L) : (L.zip (L.map g)).lookup x = some (g x) := by
  induction L with
  | nil => cases h
  | cons y r ih =>
    rw [List.map_cons, List.zip_cons_cons]
    by_cases e : x = y
    · subst e; simp [List.lookup]
    · have q : (x == y) = false := by simpa using e
      simp only [List.lookup, q]
      rcases List.mem_cons.mp h with z | z
      · exact absurd z e
      · exact ih z
structure Sos (l l' : List Out) : Prop where
  v : l'.map (·.v) = l.map (·.v)
  sd : l'.flatMap (·.said) = l.flatMap (·.said)
theorem dens_of (m : Bool) (e : SEnv) (P : List Room) (l : List Part) : dens m (Parts.of l) e P = l.map fun p => den m p e P := by rw [dens_list, Parts.list_of]
mutual
theorem hsim (m : Bool) : ∀ (p : Part) (ns : List Str) (fa : FE0) (fs : FW) (e e' : SEnv) (P P' : List Room), p.ok ns fa → HsN (wt p fs) P P' → HsF fa fs e e' → So (den false p e P) (den m (hm p fs) e' P')
  | .num n, ns, fa, fs, e, e', P, P', ok, N, F => by simp only [hm, den]; exact So.rfl' _
  | .name x, ns, fa, fs, e, e', P, P', ok, N, F => by
    simp only [hm, den]
    exact ⟨N x (by simp [wt]), rfl⟩
  | .add a b, ns, fa, fs, e, e', P, P', ok, N, F => by
    simp only [Part.ok] at ok
    have N : ∀ x, x ∈ wt a fs ∨ x ∈ wt b fs → rv P' x = rv P x := fun x hx => N x (by simp only [wt, mem_srtS, List.mem_append]; exact hx)
    simp only [hm, den]
    exact (hsim m a ns fa fs e e' P P' ok.1 (fun x hx => N x (.inl hx)) F).bnd fun i => (hsim m b ns fa fs e e' P P' ok.2 (fun x hx => N x (.inr hx)) F).bnd fun j => So.rfl' _
  | .less a b, ns, fa, fs, e, e', P, P', ok, N, F => by
    simp only [Part.ok] at ok
    have N : ∀ x, x ∈ wt a fs ∨ x ∈ wt b fs → rv P' x = rv P x := fun x hx => N x (by simp only [wt, mem_srtS, List.mem_append]; exact hx)
    simp only [hm, den]
    exact (hsim m a ns fa fs e e' P P' ok.1 (fun x hx => N x (.inl hx)) F).bnd fun i => (hsim m b ns fa fs e e' P P' ok.2 (fun x hx => N x (.inr hx)) F).bnd fun j => So.rfl' _
  | .ite c a b, ns, fa, fs, e, e', P, P', ok, N, F => by
    simp only [Part.ok] at ok
    have N : ∀ x, x ∈ wt c fs ∨ x ∈ wt a fs ∨ x ∈ wt b fs → rv P' x = rv P x := fun x hx => N x (by simp only [wt, mem_srtS, List.mem_append]; exact hx)
    simp only [hm, den]
    exact (hsim m c ns fa fs e e' P P' ok.1 (fun x hx => N x (.inl hx)) F).bnd fun i => So.ite (hsim m b ns fa fs e e' P P' ok.2.2 (fun x hx => N x (.inr (.inr hx))) F) (hsim m a ns fa fs e e' P P' ok.2.1 (fun x hx => N x (.inr (.inl hx))) F)
  | .say a, ns, fa, fs, e, e', P, P', ok, N, F => by
    simp only [Part.ok] at ok
    simp only [hm, den]
    exact (hsim m a ns fa fs e e' P P' ok (fun x hx => N x (by simp only [wt, mem_srtS]; exact hx)) F).bnd fun i => So.rfl' _
  | .lt y a b, ns, fa, fs, e, e', P, P', ok, N, F => by
    simp only [Part.ok] at ok
    have N : ∀ x, x ∈ wt a fs ∨ (x ∈ wt b fs ∧ x ∉ [y]) → rv P' x = rv P x := fun x hx => N x (by simp only [wt, mem_srtS, List.mem_append, mem_outP]; exact hx)
    simp only [hm, den]
    refine (hsim m a ns fa fs e e' P P' ok.2.1 (fun x hx => N x (.inl hx)) F).bnd fun i => hsim m b (ns ++ [y]) fa fs e e' _ _ ok.2.2 (fun x hx => ?_) F
    by_cases q : x = y
    · subst q; rw [rv_one, rv_one]
    · rw [rv_ne q, rv_ne q]; exact N x (.inr ⟨hx, by simpa using q⟩)
  | .fn f ps b r, ns, fa, fs, e, e', P, P', ok, N, F => by
    simp only [Part.ok] at ok
    obtain ⟨_, _, nd, _, okb, okr⟩ := ok
    simp only [hm, den]
    refine hsim m r ns _ _ _ _ P P' okr (fun x hx => N x (by simp only [wt]; exact hx)) fun g n hg => ?_
    unfold putN at hg ⊢
    by_cases q : g = f
    · subst q
      rw [if_pos rfl] at hg
      have en : ps.length = n := Option.some.inj hg
      refine ⟨_, _, kn ps b fs, if_pos rfl, if_pos rfl, if_pos rfl, fun vs P1 dyn' hl => ?_⟩
      have hl' : ps.length = vs.length := en.trans hl.symm
      refine hsim m b (ns ++ ps) fa fs e e' _ _ okb (fun x hx => ?_) F
      have e1 := lookup_zip_app (L := kn ps b fs) (us := (kn ps b fs).map (rv P1)) hl' x
      by_cases hp : x ∈ ps
      · obtain ⟨i, hi⟩ := Option.isSome_iff_exists.mp (lookup_zip hl' hp)
        have h1 : rv (P1 ++ [ps.zip vs]) x = i := rd_top hi
        rw [hi] at e1
        have h2 : rv ((if m = true then P' else dyn') ++ [(ps ++ kn ps b fs).zip (vs ++ (kn ps b fs).map (rv P1))]) x = i := rd_top e1
        show rv _ x = rv _ x
        rw [h2]; exact h1.symm
      · have hk : x ∈ kn ps b fs := mem_outP.mpr ⟨hx, hp⟩
        have h1 : rv (P1 ++ [ps.zip vs]) x = rv P1 x := rd_pass fun r hr => by rw [List.mem_singleton.mp hr]; exact lookup_zip_none hp
        rw [lookup_zip_none hp, lookup_zip_map hk] at e1
        have h2 : rv ((if m = true then P' else dyn') ++ [(ps ++ kn ps b fs).zip (vs ++ (kn ps b fs).map (rv P1))]) x = rv P1 x := rd_top e1
        show rv _ x = rv _ x
        rw [h2]; exact h1.symm
    · rw [if_neg q] at hg
      obtain ⟨g1, g2, L, h1, h2, h3, h4⟩ := F g n hg
      exact ⟨g1, g2, L, (if_neg q).trans h1, (if_neg q).trans h2, (if_neg q).trans h3, h4⟩
  | .call f as, ns, fa, fs, e, e', P, P', ok, N, F => by
    simp only [Part.ok] at ok
    obtain ⟨g, g', L, h1, h2, h3, h4⟩ := F f _ ok.1
    have N : ∀ x, x ∈ L ∨ x ∈ wts as fs → rv P' x = rv P x := fun x hx => N x (by simp only [wt, mem_srtS, List.mem_append, h3, Option.getD_some]; exact hx)
    have S := hsims m as ns fa fs e e' P P' ok.2 (fun x hx => N x (.inr hx)) F
    have ev : (dens m (Parts.of ((hms as fs).list ++ nmP L)) e' P').map (·.v) = (dens false as e P).map (·.v) ++ L.map (rv P) := by
      rw [dens_of, List.map_append, List.map_append, ← dens_list, S.v, List.map_map, List.map_map]
      congr 1
      refine List.map_congr_left fun x hx => ?_
      show (den m (.name x) e' P').v = _
      simp only [den]; exact N x (.inl hx)
    have es : (dens m (Parts.of ((hms as fs).list ++ nmP L)) e' P').flatMap (·.said) = (dens false as e P).flatMap (·.said) := by
      rw [dens_of, List.map_append, List.flatMap_append, ← dens_list, S.sd]
      have : ((nmP L).map fun p => den m p e' P').flatMap (·.said) = [] := by
        rw [List.flatMap_eq_nil_iff]
        intro o ho
        obtain ⟨p, hp, rfl⟩ := List.mem_map.mp ho
        obtain ⟨x, _, rfl⟩ := List.mem_map.mp hp
        simp [den]
      rw [this, List.append_nil]
    simp only [hm, den, h1, h2, h3, Option.getD_some]
    have hg := h4 ((dens false as e P).map (·.v)) P P' (by rw [List.length_map, dens_lenL])
    refine ⟨?_, ?_⟩
    · show (g' ((dens m (Parts.of ((hms as fs).list ++ nmP L)) e' P').map (·.v)) P').v = _
      rw [ev]; exact hg.v
    · show (dens m (Parts.of ((hms as fs).list ++ nmP L)) e' P').flatMap (·.said) ++ (g' ((dens m (Parts.of ((hms as fs).list ++ nmP L)) e' P').map (·.v)) P').said = _
      rw [es, ev, hg.sd]
theorem hsims (m : Bool) : ∀ (as : Parts) (ns : List Str) (fa : FE0) (fs : FW) (e e' : SEnv) (P P' : List Room), as.ok ns fa → HsN (wts as fs) P P' → HsF fa fs e e' → Sos (dens false as e P) (dens m (hms as fs) e' P')
  | .nil, ns, fa, fs, e, e', P, P', ok, N, F => by simp only [hms, dens]; exact ⟨rfl, rfl⟩
  | .cons p r, ns, fa, fs, e, e', P, P', ok, N, F => by
    simp only [Parts.ok] at ok
    have N : ∀ x, x ∈ wt p fs ∨ x ∈ wts r fs → rv P' x = rv P x := fun x hx => N x (by simp only [wts, List.mem_append]; exact hx)
    have h1 := hsim m p ns fa fs e e' P P' ok.1 (fun x hx => N x (.inl hx)) F
    have h2 := hsims m r ns fa fs e e' P P' ok.2 (fun x hx => N x (.inr hx)) F
    simp only [hms, dens]
    exact ⟨by simp only [List.map_cons, h1.v, h2.v], by simp only [List.flatMap_cons, h1.sd, h2.sd]⟩
end
/-! ### it is a program -/
def faH (fa : FE0) (fs : FW) : FE0 := fun f => (fa f).map fun n => n + ((fs f).getD []).length
theorem faH_put (fa : FE0) (fs : FW) (f : Str) (n : Nat) (L : List Str) : faH (putN fa f n) (putN fs f L) = putN (faH fa fs) f (n + L.length) := by
  funext g
  unfold faH putN
  by_cases e : g = f
  · simp [e]
  · simp [e]
mutual
theorem hm_ok (U : List Str) (hU : ∀ x ∈ U, wordB x = true) : ∀ (p : Part) (ns ns' : List Str) (fa : FE0) (fs : FW), p.ok ns fa → FwOk U fs → rdIn U p → fitH p fs → (∀ f n, fa f = some n → (fs f).isSome = true) → (∀ x ∈ wt p fs, x ∈ ns') → (hm p fs).ok ns' (faH fa fs)
  | .num n, ns, ns', fa, fs, ok, W, r, ft, hs, N => by simpa only [hm, Part.ok] using ok
  | .name x, ns, ns', fa, fs, ok, W, r, ft, hs, N => by simp only [hm, Part.ok]; exact N x (by simp [wt])
  | .add a b, ns, ns', fa, fs, ok, W, r, ft, hs, N => by
    simp only [Part.ok, rdIn, fitH] at ok r ft
    have N : ∀ x, x ∈ wt a fs ∨ x ∈ wt b fs → x ∈ ns' := fun x hx => N x (by simp only [wt, mem_srtS, List.mem_append]; exact hx)
    simp only [hm, Part.ok]
    exact ⟨hm_ok U hU a ns ns' fa fs ok.1 W r.1 ft.1 hs fun x hx => N x (.inl hx), hm_ok U hU b ns ns' fa fs ok.2 W r.2 ft.2 hs fun x hx => N x (.inr hx)⟩
  | .less a b, ns, ns', fa, fs, ok, W, r, ft, hs, N => by
    simp only [Part.ok, rdIn, fitH] at ok r ft
    have N : ∀ x, x ∈ wt a fs ∨ x ∈ wt b fs → x ∈ ns' := fun x hx => N x (by simp only [wt, mem_srtS, List.mem_append]; exact hx)
    simp only [hm, Part.ok]
    exact ⟨hm_ok U hU a ns ns' fa fs ok.1 W r.1 ft.1 hs fun x hx => N x (.inl hx), hm_ok U hU b ns ns' fa fs ok.2 W r.2 ft.2 hs fun x hx => N x (.inr hx)⟩
  | .ite c a b, ns, ns', fa, fs, ok, W, r, ft, hs, N => by
    simp only [Part.ok, rdIn, fitH] at ok r ft
    have N : ∀ x, x ∈ wt c fs ∨ x ∈ wt a fs ∨ x ∈ wt b fs → x ∈ ns' := fun x hx => N x (by simp only [wt, mem_srtS, List.mem_append]; exact hx)
    simp only [hm, Part.ok]
    exact ⟨hm_ok U hU c ns ns' fa fs ok.1 W r.1 ft.1 hs fun x hx => N x (.inl hx), hm_ok U hU a ns ns' fa fs ok.2.1 W r.2.1 ft.2.1 hs fun x hx => N x (.inr (.inl hx)), hm_ok U hU b ns ns' fa fs ok.2.2 W r.2.2 ft.2.2 hs fun x hx => N x (.inr (.inr hx))⟩
  | .say a, ns, ns', fa, fs, ok, W, r, ft, hs, N => by
    simp only [Part.ok, rdIn, fitH] at ok r ft
    simp only [hm, Part.ok]
    exact hm_ok U hU a ns ns' fa fs ok W r ft hs fun x hx => N x (by simp only [wt, mem_srtS]; exact hx)
  | .lt y a b, ns, ns', fa, fs, ok, W, r, ft, hs, N => by
    simp only [Part.ok, rdIn, fitH] at ok r ft
    have N : ∀ x, x ∈ wt a fs ∨ (x ∈ wt b fs ∧ x ∉ [y]) → x ∈ ns' := fun x hx => N x (by simp only [wt, mem_srtS, List.mem_append, mem_outP]; exact hx)
    simp only [hm, Part.ok]
    refine ⟨ok.1, hm_ok U hU a ns ns' fa fs ok.2.1 W r.1 ft.1 hs fun x hx => N x (.inl hx), hm_ok U hU b (ns ++ [y]) (ns' ++ [y]) fa fs ok.2.2 W r.2 ft.2 hs fun x hx => ?_⟩
    by_cases q : x ∈ [y]
    · exact List.mem_append_right _ q
    · exact List.mem_append_left _ (N x (.inr ⟨hx, q⟩))
  | .fn f ps b r', ns, ns', fa, fs, ok, W, r, ft, hs, N => by
    simp only [Part.ok, rdIn, fitH] at ok r ft
    obtain ⟨o1, o2, o3, o4, o5, o6⟩ := ok
    have k := kn_ok (ps := ps) W r.1
    simp only [hm, Part.ok]
    refine ⟨o1, ft.1, List.nodup_append.mpr ⟨o3, ris_nodup k.1, fun x hx y hy e => ?_⟩, fun x hx => ?_, ?_, ?_⟩
    · subst e; exact (mem_outP.mp hy).2 hx
    · rcases List.mem_append.mp hx with z | z
      · exact o4 x z
      · exact hU x (k.2 x z)
    · refine hm_ok U hU b (ns ++ ps) _ fa fs o5 W r.1 ft.2.1 hs fun x hx => ?_
      by_cases q : x ∈ ps
      · exact List.mem_append_right _ (List.mem_append_left _ q)
      · exact List.mem_append_right _ (List.mem_append_right _ (mem_outP.mpr ⟨hx, q⟩))
    · have := hm_ok U hU r' ns ns' _ _ o6 (W.put (f := f) k.1 k.2) r.2 ft.2.2 (fun g n e => by
        unfold putN at e ⊢
        by_cases z : g = f
        · rw [if_pos z]; rfl
        · rw [if_neg z] at e ⊢; exact hs g n e) fun x hx => N x (by simp only [wt]; exact hx)
      rw [faH_put] at this
      rw [List.length_append]; exact this
  | .call f as, ns, ns', fa, fs, ok, W, r, ft, hs, N => by
    simp only [Part.ok, rdIn, fitH] at ok r ft
    have N : ∀ x, x ∈ (fs f).getD [] ∨ x ∈ wts as fs → x ∈ ns' := fun x hx => N x (by simp only [wt, mem_srtS, List.mem_append]; exact hx)
    simp only [hm, Part.ok]
    refine ⟨?_, parts_ok fun a ha => ?_⟩
    · unfold faH
      rw [ok.1, Parts.len_of, List.length_append, List.length_map, hms_list]
      simp [hmL, Parts.list_len]
    · rcases List.mem_append.mp ha with z | z
      · exact parts_in (hms_ok U hU as ns ns' fa fs ok.2 W r ft hs fun x hx => N x (.inr hx)) a z
      · obtain ⟨x, hx, rfl⟩ := List.mem_map.mp z
        simp only [Part.ok]; exact N x (.inl hx)
theorem hms_ok (U : List Str) (hU : ∀ x ∈ U, wordB x = true) : ∀ (as : Parts) (ns ns' : List Str) (fa : FE0) (fs : FW), as.ok ns fa → FwOk U fs → rdIns U as → fitHs as fs → (∀ f n, fa f = some n → (fs f).isSome = true) → (∀ x ∈ wts as fs, x ∈ ns') → (hms as fs).ok ns' (faH fa fs)
  | .nil, ns, ns', fa, fs, ok, W, r, ft, hs, N => by simp only [hms, Parts.ok]
  | .cons p q, ns, ns', fa, fs, ok, W, r, ft, hs, N => by
    simp only [Parts.ok, rdIns, fitHs] at ok r ft
    simp only [hms, Parts.ok]
    exact ⟨hm_ok U hU p ns ns' fa fs ok.1 W r.1 ft.1 hs fun x hx => N x (by simp only [wts, List.mem_append]; exact .inl hx), hms_ok U hU q ns ns' fa fs ok.2 W r.2 ft.2 hs fun x hx => N x (by simp only [wts, List.mem_append]; exact .inr hx)⟩
end
/-! ### what it wants lies in scope -/
mutual
theorem wt_scope : ∀ (p : Part) (ns : List Str) (fa : FE0) (fs : FW), p.ok ns fa → (∀ f L, fs f = some L → ∀ x ∈ L, x ∈ ns) → ∀ x ∈ wt p fs, x ∈ ns
  | .num n, ns, fa, fs, ok, F => by simp [wt]
  | .name y, ns, fa, fs, ok, F => by simp only [Part.ok] at ok; simp [wt, ok]
  | .add a b, ns, fa, fs, ok, F => fun x hx => by
    simp only [Part.ok] at ok
    simp only [wt, mem_srtS, List.mem_append] at hx
    exact hx.elim (wt_scope a ns fa fs ok.1 F x) (wt_scope b ns fa fs ok.2 F x)
  | .less a b, ns, fa, fs, ok, F => fun x hx => by
    simp only [Part.ok] at ok
    simp only [wt, mem_srtS, List.mem_append] at hx
    exact hx.elim (wt_scope a ns fa fs ok.1 F x) (wt_scope b ns fa fs ok.2 F x)
  | .ite c a b, ns, fa, fs, ok, F => fun x hx => by
    simp only [Part.ok] at ok
    simp only [wt, mem_srtS, List.mem_append] at hx
    exact hx.elim (wt_scope c ns fa fs ok.1 F x) fun z => z.elim (wt_scope a ns fa fs ok.2.1 F x) (wt_scope b ns fa fs ok.2.2 F x)
  | .say a, ns, fa, fs, ok, F => fun x hx => by
    simp only [Part.ok] at ok
    simp only [wt, mem_srtS] at hx
    exact wt_scope a ns fa fs ok F x hx
  | .lt y a b, ns, fa, fs, ok, F => fun x hx => by
    simp only [Part.ok] at ok
    simp only [wt, mem_srtS, List.mem_append, mem_outP] at hx
    rcases hx with z | ⟨z, n⟩
    · exact wt_scope a ns fa fs ok.2.1 F x z
    · have := wt_scope b (ns ++ [y]) fa fs ok.2.2 (fun f L e w hw => List.mem_append_left _ (F f L e w hw)) x z
      rcases List.mem_append.mp this with q | q
      · exact q
      · exact absurd q n
  | .fn f ps b r, ns, fa, fs, ok, F => fun x hx => by
    simp only [Part.ok] at ok
    simp only [wt] at hx
    refine wt_scope r ns _ _ ok.2.2.2.2.2 (fun g L e w hw => ?_) x hx
    unfold putN at e
    by_cases q : g = f
    · rw [if_pos q] at e; cases e
      obtain ⟨h1, h2⟩ := mem_outP.mp hw
      have := wt_scope b (ns ++ ps) fa fs ok.2.2.2.2.1 (fun f L e w hw => List.mem_append_left _ (F f L e w hw)) w h1
      rcases List.mem_append.mp this with q | q
      · exact q
      · exact absurd q h2
    · rw [if_neg q] at e; exact F g L e w hw
  | .call f as, ns, fa, fs, ok, F => fun x hx => by
    simp only [Part.ok] at ok
    simp only [wt, mem_srtS, List.mem_append] at hx
    rcases hx with z | z
    · cases q : fs f with
      | none => rw [q] at z; cases z
      | some L => rw [q] at z; exact F f L q x z
    · exact wts_scope as ns fa fs ok.2 F x z
theorem wts_scope : ∀ (as : Parts) (ns : List Str) (fa : FE0) (fs : FW), as.ok ns fa → (∀ f L, fs f = some L → ∀ x ∈ L, x ∈ ns) → ∀ x ∈ wts as fs, x ∈ ns
  | .nil, ns, fa, fs, ok, F => by simp [wts]
  | .cons p r, ns, fa, fs, ok, F => fun x hx => by
    simp only [Parts.ok] at ok
    simp only [wts, List.mem_append] at hx
    exact hx.elim (wt_scope p ns fa fs ok.1 F x) (wts_scope r ns fa fs ok.2 F x)
end
/-! ### how great, how deep, how much -/
mutual
def Part.calls : Part → Nat
  | .num _ => 0
  | .name _ => 0
  | .add a b => a.calls + b.calls
  | .less a b => a.calls + b.calls
  | .ite c a b => c.calls + (a.calls + b.calls)
  | .say a => a.calls
  | .lt _ a b => a.calls + b.calls
  | .fn _ _ b r => b.calls + r.calls
  | .call _ as => 1 + as.calls
def Parts.calls : Parts → Nat
  | .nil => 0
  | .cons p r => p.calls + r.calls
end
theorem parts_size : ∀ (l m : List Part), (Parts.of (l ++ m)).size = (Parts.of l).size + (Parts.of m).size
  | [], m => by simp [Parts.of, Parts.size]
  | p :: r, m => by simp only [List.cons_append, Parts.of, Parts.size, parts_size r m]; omega
theorem nmP_size : ∀ L : List Str, (Parts.of (nmP L)).size = L.length
  | [] => rfl
  | x :: r => by simp only [List.map_cons, Parts.of, Parts.size, Part.size, nmP_size r, List.length_cons]; omega
mutual
theorem hm_size (k : Nat) : ∀ (p : Part) (U : List Str) (fs : FW), U.length ≤ k → FwOk U fs → rdIn U p → (hm p fs).size ≤ p.size + k * p.calls
  | .num _, U, fs, hU, W, r => by simp [hm, Part.size]
  | .name _, U, fs, hU, W, r => by simp [hm, Part.size]
  | .add a b, U, fs, hU, W, r => by simp only [rdIn] at r; have := hm_size k a U fs hU W r.1; have := hm_size k b U fs hU W r.2; simp only [hm, Part.size, Part.calls, Nat.mul_add]; omega
  | .less a b, U, fs, hU, W, r => by simp only [rdIn] at r; have := hm_size k a U fs hU W r.1; have := hm_size k b U fs hU W r.2; simp only [hm, Part.size, Part.calls, Nat.mul_add]; omega
  | .ite c a b, U, fs, hU, W, r => by simp only [rdIn] at r; have := hm_size k c U fs hU W r.1; have := hm_size k a U fs hU W r.2.1; have := hm_size k b U fs hU W r.2.2; simp only [hm, Part.size, Part.calls, Nat.mul_add]; omega
  | .say a, U, fs, hU, W, r => by simp only [rdIn] at r; have := hm_size k a U fs hU W r; simp only [hm, Part.size, Part.calls]; omega
  | .lt _ a b, U, fs, hU, W, r => by simp only [rdIn] at r; have := hm_size k a U fs hU W r.1; have := hm_size k b U fs hU W r.2; simp only [hm, Part.size, Part.calls, Nat.mul_add]; omega
  | .fn f ps b r', U, fs, hU, W, r => by
    simp only [rdIn] at r
    have q := kn_ok (ps := ps) W r.1
    have := hm_size k b U fs hU W r.1; have := hm_size k r' U (putN fs f (kn ps b fs)) hU (W.put q.1 q.2) r.2
    simp only [hm, Part.size, Part.calls, Nat.mul_add]; omega
  | .call f as, U, fs, hU, W, r => by
    simp only [rdIn] at r
    have h1 := hms_size k as U fs hU W r
    have h2 : ((fs f).getD []).length ≤ k := by
      cases q : fs f with
      | none => simp
      | some L => have := W f L q; exact Nat.le_trans (ris_len this.1 this.2) hU
    simp only [hm, Part.size, Part.calls, Nat.mul_add, parts_size, nmP_size, Parts.of_list]; omega
theorem hms_size (k : Nat) : ∀ (as : Parts) (U : List Str) (fs : FW), U.length ≤ k → FwOk U fs → rdIns U as → (hms as fs).size ≤ as.size + k * as.calls
  | .nil, U, fs, hU, W, r => by simp [hms, Parts.size]
  | .cons p q, U, fs, hU, W, r => by simp only [rdIns] at r; have := hm_size k p U fs hU W r.1; have := hms_size k q U fs hU W r.2; simp only [hms, Parts.size, Parts.calls, Nat.mul_add]; omega
end
mutual
def Part.cs6 : Part → (Str → Nat) → Nat
  | .num _, _ => 0
  | .name _, _ => 1
  | .add a b, d => a.cs6 d + b.cs6 d
  | .less a b, d => a.cs6 d + b.cs6 d
  | .ite c a b, d => c.cs6 d + max (a.cs6 d) (b.cs6 d)
  | .say a, d => a.cs6 d + 1
  | .lt _ a b, d => a.cs6 d + b.cs6 d
  | .fn f _ b r, d => r.cs6 (putD d f (b.cs6 d))
  | .call f as, d => as.cs6 d + 6 + d f
def Parts.cs6 : Parts → (Str → Nat) → Nat
  | .nil, _ => 0
  | .cons p r, d => p.cs6 d + r.cs6 d
end
theorem parts_cst_app (d : Str → Nat) : ∀ (l m : List Part), (Parts.of (l ++ m)).cst d = (Parts.of l).cst d + (Parts.of m).cst d
  | [], m => by simp [Parts.of, Parts.cst]
  | p :: r, m => by simp only [List.cons_append, Parts.of, Parts.cst, parts_cst_app d r m]; omega
theorem nmP_cst (d : Str → Nat) : ∀ L : List Str, (Parts.of (nmP L)).cst d = L.length
  | [] => rfl
  | x :: r => by simp only [List.map_cons, Parts.of, Parts.cst, Part.cst, nmP_cst d r, List.length_cons]; omega
theorem putD_mono {d d' : Str → Nat} {f : Str} {m n : Nat} (h : ∀ g, d' g ≤ d g) (k : m ≤ n) : ∀ g, putD d' f m g ≤ putD d f n g := fun g => by
  unfold putD
  split
  · exact k
  · exact h g
mutual
theorem hm_cst : ∀ (p : Part) (U : List Str) (fs : FW) (d' d : Str → Nat), U.length ≤ 6 → FwOk U fs → rdIn U p → (∀ f, d' f ≤ d f) → (hm p fs).cst d' ≤ p.cs6 d
  | .num _, U, fs, d', d, hU, W, r, h => by simp [hm, Part.cst]
  | .name _, U, fs, d', d, hU, W, r, h => by simp [hm, Part.cst, Part.cs6]
  | .add a b, U, fs, d', d, hU, W, r, h => by simp only [rdIn] at r; have := hm_cst a U fs d' d hU W r.1 h; have := hm_cst b U fs d' d hU W r.2 h; simp only [hm, Part.cst, Part.cs6]; omega
  | .less a b, U, fs, d', d, hU, W, r, h => by simp only [rdIn] at r; have := hm_cst a U fs d' d hU W r.1 h; have := hm_cst b U fs d' d hU W r.2 h; simp only [hm, Part.cst, Part.cs6]; omega
  | .ite c a b, U, fs, d', d, hU, W, r, h => by simp only [rdIn] at r; have := hm_cst c U fs d' d hU W r.1 h; have := hm_cst a U fs d' d hU W r.2.1 h; have := hm_cst b U fs d' d hU W r.2.2 h; simp only [hm, Part.cst, Part.cs6]; omega
  | .say a, U, fs, d', d, hU, W, r, h => by simp only [rdIn] at r; have := hm_cst a U fs d' d hU W r h; simp only [hm, Part.cst, Part.cs6]; omega
  | .lt _ a b, U, fs, d', d, hU, W, r, h => by simp only [rdIn] at r; have := hm_cst a U fs d' d hU W r.1 h; have := hm_cst b U fs d' d hU W r.2 h; simp only [hm, Part.cst, Part.cs6]; omega
  | .fn f ps b r', U, fs, d', d, hU, W, r, h => by
    simp only [rdIn] at r
    have q := kn_ok (ps := ps) W r.1
    simp only [hm, Part.cst, Part.cs6]
    exact hm_cst r' U _ _ _ hU (W.put q.1 q.2) r.2 (putD_mono h (hm_cst b U fs d' d hU W r.1 h))
  | .call f as, U, fs, d', d, hU, W, r, h => by
    simp only [rdIn] at r
    have h1 := hms_cst as U fs d' d hU W r h
    have h2 : ((fs f).getD []).length ≤ 6 := by
      cases q : fs f with
      | none => simp
      | some L => have := W f L q; exact Nat.le_trans (ris_len this.1 this.2) hU
    have h3 := h f
    simp only [hm, Part.cst, Part.cs6, parts_cst_app, nmP_cst, Parts.of_list]; omega
theorem hms_cst : ∀ (as : Parts) (U : List Str) (fs : FW) (d' d : Str → Nat), U.length ≤ 6 → FwOk U fs → rdIns U as → (∀ f, d' f ≤ d f) → (hms as fs).cst d' ≤ as.cs6 d
  | .nil, U, fs, d', d, hU, W, r, h => by simp [hms, Parts.cst]
  | .cons p q, U, fs, d', d, hU, W, r, h => by simp only [rdIns] at r; have := hm_cst p U fs d' d hU W r.1 h; have := hms_cst q U fs d' d hU W r.2 h; simp only [hms, Parts.cst, Parts.cs6]; omega
end
mutual
theorem hm_dpt : ∀ (p : Part) (ns : List Str) (fa : FE0) (fs : FW) (d' d : Str → Nat), p.ok ns fa → (∀ f, d' f ≤ d f) → (∀ f n, fa f = some n → 1 ≤ d f) → (hm p fs).dpt d' ≤ p.dpt d
  | .num _, ns, fa, fs, d', d, ok, h, g => by simp [hm, Part.dpt]
  | .name _, ns, fa, fs, d', d, ok, h, g => by simp [hm, Part.dpt]
  | .add a b, ns, fa, fs, d', d, ok, h, g => by simp only [Part.ok] at ok; have := hm_dpt a ns fa fs d' d ok.1 h g; have := hm_dpt b ns fa fs d' d ok.2 h g; simp only [hm, Part.dpt]; omega
  | .less a b, ns, fa, fs, d', d, ok, h, g => by simp only [Part.ok] at ok; have := hm_dpt a ns fa fs d' d ok.1 h g; have := hm_dpt b ns fa fs d' d ok.2 h g; simp only [hm, Part.dpt]; omega
  | .ite c a b, ns, fa, fs, d', d, ok, h, g => by simp only [Part.ok] at ok; have := hm_dpt c ns fa fs d' d ok.1 h g; have := hm_dpt a ns fa fs d' d ok.2.1 h g; have := hm_dpt b ns fa fs d' d ok.2.2 h g; simp only [hm, Part.dpt]; omega
  | .say a, ns, fa, fs, d', d, ok, h, g => by simp only [Part.ok] at ok; have := hm_dpt a ns fa fs d' d ok h g; simp only [hm, Part.dpt]; omega
  | .lt x a b, ns, fa, fs, d', d, ok, h, g => by simp only [Part.ok] at ok; have := hm_dpt a ns fa fs d' d ok.2.1 h g; have := hm_dpt b _ fa fs d' d ok.2.2 h g; simp only [hm, Part.dpt]; omega
  | .fn f ps b r, ns, fa, fs, d', d, ok, h, g => by
    simp only [Part.ok] at ok
    have h1 := hm_dpt b _ fa fs d' d ok.2.2.2.2.1 h g
    have h2 := hm_dpt r ns (putN fa f ps.length) (putN fs f (kn ps b fs)) (putD d' f ((hm b fs).dpt d')) (putD d f (b.dpt d)) ok.2.2.2.2.2 (putD_mono h h1) fun k n e => by
      unfold putN at e
      unfold putD
      by_cases z : k = f
      · rw [if_pos z]; exact dpt_pos _ _
      · rw [if_neg z] at e ⊢; exact g k n e
    simp only [hm, Part.dpt]; omega
  | .call f as, ns, fa, fs, d', d, ok, h, g => by
    simp only [Part.ok] at ok
    have h1 := hms_dpt as ns fa fs d' d ok.2 h g
    have h2 := g f _ ok.1
    have h3 := h f
    have h4 : (Parts.of ((hms as fs).list ++ nmP ((fs f).getD []))).dpt d' ≤ max (as.dpt d) 1 := parts_dpt fun a ha => by
      rcases List.mem_append.mp ha with z | z
      · have := dpt_list (d := d') z; omega
      · obtain ⟨x, _, rfl⟩ := List.mem_map.mp z
        simp only [Part.dpt]; omega
    simp only [hm, Part.dpt]; omega
theorem hms_dpt : ∀ (as : Parts) (ns : List Str) (fa : FE0) (fs : FW) (d' d : Str → Nat), as.ok ns fa → (∀ f, d' f ≤ d f) → (∀ f n, fa f = some n → 1 ≤ d f) → (hms as fs).dpt d' ≤ as.dpt d
  | .nil, ns, fa, fs, d', d, ok, h, g => by simp [hms, Parts.dpt]
  | .cons p q, ns, fa, fs, d', d, ok, h, g => by simp only [Parts.ok] at ok; have := hm_dpt p ns fa fs d' d ok.1 h g; have := hms_dpt q ns fa fs d' d ok.2 h g; simp only [hms, Parts.dpt]; omega
end
end BN
namespace BN
open PySem L2
/-! ### bounds of what is handed on, drawn programs -/
def qA (d : Int) : Nat := if d ≤ 0 then 1 else if d = 1 then 13 else if d = 2 then 50 else if d = 3 then 211 else 1699
def qB (d : Int) : Nat := if d ≤ 0 then 0 else if d = 1 then 1 else if d = 2 then 2 else if d = 3 then 6 else 42
theorem q_tab {d : Int} (h0 : 0 < d) (h4 : d ≤ 4) : (qA d = 13 ∧ qB d = 1 ∧ qA (d - 1) = 1 ∧ qB (d - 1) = 0 ∧ qA (d - 2) = 1 ∧ qB (d - 2) = 0) ∨ (qA d = 50 ∧ qB d = 2 ∧ qA (d - 1) = 13 ∧ qB (d - 1) = 1 ∧ qA (d - 2) = 1 ∧ qB (d - 2) = 0) ∨
    (qA d = 211 ∧ qB d = 6 ∧ qA (d - 1) = 50 ∧ qB (d - 1) = 2 ∧ qA (d - 2) = 13 ∧ qB (d - 2) = 1) ∨ (qA d = 1699 ∧ qB d = 42 ∧ qA (d - 1) = 211 ∧ qB (d - 1) = 6 ∧ qA (d - 2) = 50 ∧ qB (d - 2) = 2) := by
  have : d = 1 ∨ d = 2 ∨ d = 3 ∨ d = 4 := by omega
  rcases this with rfl | rfl | rfl | rfl
  · exact .inl (by decide)
  · exact .inr (.inl (by decide))
  · exact .inr (.inr (.inl (by decide)))
  · exact .inr (.inr (.inr (by decide)))
theorem leaf_cs6 {names : List Str} {p : Part} (h : Leaf names p) (d : Str → Nat) : p.cs6 d ≤ 1 := by cases h <;> simp [Part.cs6]
theorem parts_cs6 {d : Str → Nat} {n : Nat} : ∀ {l : List Part}, (∀ a ∈ l, a.cs6 d ≤ n) → (Parts.of l).cs6 d ≤ l.length * n
  | [], _ => by simp [Parts.of, Parts.cs6]
  | p :: r, h => by
    have h1 := h p (by simp)
    have h2 := parts_cs6 (d := d) (n := n) (l := r) fun a ha => h a (List.mem_cons_of_mem _ ha)
    simp only [Parts.of, Parts.cs6, List.length_cons, Nat.succ_mul]; omega
theorem parts_cs64 {d : Str → Nat} {n : Nat} {l : List Part} (h4 : l.length ≤ 4) (h : ∀ a ∈ l, a.cs6 d ≤ n) : (Parts.of l).cs6 d ≤ 4 * n :=
  Nat.le_trans (parts_cs6 h) (Nat.mul_le_mul_right n h4)
theorem gen_cs6 {ws : List Str} {d names funs p} (h : Gen ws d names funs p) : d ≤ 4 → (∀ e ∈ funs, e.2 ≤ 4) → ∀ (ν : Str → Nat) (M : Nat), (∀ f, ν f ≤ M) → p.cs6 ν ≤ qA d + qB d * M := by
  have kn : ∀ {funs : List (Str × Nat)} {f : Str} {n : Nat}, n ≤ 4 → (∀ e ∈ funs, e.2 ≤ 4) → ∀ e ∈ known funs f n, e.2 ≤ 4 := fun h0 h e he => by
    rcases List.mem_append.mp he with q | q
    · exact h e (List.mem_filter.mp q).1
    · rw [List.mem_singleton.mp q]; exact h0
  induction h with
  | @leaf d names funs p h =>
    intro h5 q ν M hM
    have h1 := leaf_cs6 h ν
    have : 1 ≤ qA d := by
      by_cases h0 : 0 < d
      · rcases q_tab h0 h5 with t | t | t | t <;> omega
      · unfold qA; rw [if_pos (by omega)]; omega
    omega
  | @fn d names funs f ps b r h0 _ _ _ hl _ _ ib ir =>
    intro h5 q ν M hM
    have h1 := ib (by omega) q ν M hM
    have h2 := ir (by omega) (kn hl q) (putD ν f (b.cs6 ν))
    simp only [Part.cs6]
    rcases q_tab h0 h5 with ⟨t1, t2, t3, t4, t5, t6⟩ | ⟨t1, t2, t3, t4, t5, t6⟩ | ⟨t1, t2, t3, t4, t5, t6⟩ | ⟨t1, t2, t3, t4, t5, t6⟩ <;> rw [t3, t4] at h1 h2 <;> rw [t1, t2]
    · have h3 := h2 (1 + M) (putD_le' hM (by omega) (by omega) f); omega
    · have h3 := h2 (13 + 1 * M) (putD_le' hM (by omega) (by omega) f); omega
    · have h3 := h2 (50 + 2 * M) (putD_le' hM (by omega) (by omega) f); omega
    · have h3 := h2 (211 + 6 * M) (putD_le' hM (by omega) (by omega) f); omega
  | @fnc d names funs f ps b r w l as h0 _ _ _ hl _ _ _ hle has hlen ib ir =>
    intro h5 q ν M hM
    have h1 := ib (by omega) q ν M hM
    have h2 := ir (by omega) (kn hl q) (putD ν f (b.cs6 ν))
    have h6 := leaf_cs6 hle (putD ν f (b.cs6 ν))
    have h7 := parts_cs64 (d := putD ν f (b.cs6 ν)) (n := 1) (l := as) (by omega) fun a ha => leaf_cs6 (has a ha) _
    have h8 : putD ν f (b.cs6 ν) f = b.cs6 ν := by simp [putD]
    simp only [Part.cs6]
    rcases q_tab h0 h5 with ⟨t1, t2, t3, t4, t5, t6⟩ | ⟨t1, t2, t3, t4, t5, t6⟩ | ⟨t1, t2, t3, t4, t5, t6⟩ | ⟨t1, t2, t3, t4, t5, t6⟩ <;> rw [t3, t4] at h1 h2 <;> rw [t1, t2]
    · have h3 := h2 (1 + M) (putD_le' hM (by omega) (by omega) f); omega
    · have h3 := h2 (13 + 1 * M) (putD_le' hM (by omega) (by omega) f); omega
    · have h3 := h2 (50 + 2 * M) (putD_le' hM (by omega) (by omega) f); omega
    · have h3 := h2 (211 + 6 * M) (putD_le' hM (by omega) (by omega) f); omega
  | @lt d names funs x a b h0 _ _ _ ia ib =>
    intro h5 q ν M hM
    have h1 := ia (by omega) q ν M hM
    have h2 := ib (by omega) q ν M hM
    simp only [Part.cs6]
    rcases q_tab h0 h5 with ⟨t1, t2, t3, t4, t5, t6⟩ | ⟨t1, t2, t3, t4, t5, t6⟩ | ⟨t1, t2, t3, t4, t5, t6⟩ | ⟨t1, t2, t3, t4, t5, t6⟩ <;> rw [t5, t6] at h1 <;> rw [t3, t4] at h2 <;> rw [t1, t2] <;> omega
  | @call d names funs f as h0 hm _ ih =>
    intro h5 q ν M hM
    have h4 : as.length ≤ 4 := q _ hm
    have h1 := parts_cs64 (d := ν) h4 fun a ha => ih a ha (by omega) q ν M hM
    have h2 := hM f
    simp only [Part.cs6]
    rcases q_tab h0 h5 with ⟨t1, t2, t3, t4, t5, t6⟩ | ⟨t1, t2, t3, t4, t5, t6⟩ | ⟨t1, t2, t3, t4, t5, t6⟩ | ⟨t1, t2, t3, t4, t5, t6⟩ <;> rw [t5, t6] at h1 <;> rw [t1, t2] <;> omega
  | @say d names funs a h0 _ ih =>
    intro h5 q ν M hM
    have h1 := ih (by omega) q ν M hM
    simp only [Part.cs6]
    rcases q_tab h0 h5 with ⟨t1, t2, t3, t4, t5, t6⟩ | ⟨t1, t2, t3, t4, t5, t6⟩ | ⟨t1, t2, t3, t4, t5, t6⟩ | ⟨t1, t2, t3, t4, t5, t6⟩ <;> rw [t3, t4] at h1 <;> rw [t1, t2] <;> omega
  | @ite d names funs c a l h0 _ _ hl ic ia =>
    intro h5 q ν M hM
    have h1 := ic (by omega) q ν M hM
    have h2 := ia (by omega) q ν M hM
    have h3 := leaf_cs6 hl ν
    simp only [Part.cs6]
    rcases q_tab h0 h5 with ⟨t1, t2, t3, t4, t5, t6⟩ | ⟨t1, t2, t3, t4, t5, t6⟩ | ⟨t1, t2, t3, t4, t5, t6⟩ | ⟨t1, t2, t3, t4, t5, t6⟩ <;> rw [t5, t6] at h1 h2 <;> rw [t1, t2] <;> omega
  | @add d names funs a b h0 _ _ ia ib =>
    intro h5 q ν M hM
    have h1 := ia (by omega) q ν M hM
    have h2 := ib (by omega) q ν M hM
    simp only [Part.cs6]
    rcases q_tab h0 h5 with ⟨t1, t2, t3, t4, t5, t6⟩ | ⟨t1, t2, t3, t4, t5, t6⟩ | ⟨t1, t2, t3, t4, t5, t6⟩ | ⟨t1, t2, t3, t4, t5, t6⟩ <;> rw [t5, t6] at h1 h2 <;> rw [t1, t2] <;> omega
  | @less d names funs a b h0 _ _ ia ib =>
    intro h5 q ν M hM
    have h1 := ia (by omega) q ν M hM
    have h2 := ib (by omega) q ν M hM
    simp only [Part.cs6]
    rcases q_tab h0 h5 with ⟨t1, t2, t3, t4, t5, t6⟩ | ⟨t1, t2, t3, t4, t5, t6⟩ | ⟨t1, t2, t3, t4, t5, t6⟩ | ⟨t1, t2, t3, t4, t5, t6⟩ <;> rw [t5, t6] at h1 h2 <;> rw [t1, t2] <;> omega
theorem Drawn.cs6 {d : Int} {ins : List Str} {p : Part} (h : Drawn d ins p) (h4 : d ≤ 4) : p.cs6 (fun _ => 0) ≤ 10000 := by
  obtain ⟨ws, k, W, hk, hi, hg⟩ := h.ex
  have qa : qA d ≤ 1699 := by
    by_cases h0 : 0 < d
    · rcases q_tab h0 h4 with t | t | t | t <;> omega
    · unfold qA; rw [if_pos (by omega)]; omega
  have cs : ∀ {q : Part}, Gen ws d ins [] q → q.cs6 (fun _ => 0) ≤ 1699 := fun {q} g => by
    have h2 := gen_cs6 g h4 (fun e he => by simp at he) (fun _ => 0) 0 fun _ => Nat.le_refl _
    omega
  rcases hg with g | ⟨a, b, rfl, ga, gb⟩ | rfl
  · have := cs g; omega
  · have h1 := cs ga
    have h2 := cs gb
    simp only [Part.cs6]; omega
  · simp [Part.cs6]
theorem Drawn.rdw {d : Int} {ins : List Str} {p : Part} (h : Drawn d ins p) : ∃ U : List Str, U.length ≤ 5 ∧ (∀ x ∈ U, wordB x = true) ∧ rdIn U p ∧ psIn U p ∧ ∀ x ∈ ins, x ∈ U := by
  obtain ⟨ws, k, W, hk, rfl, g⟩ := h.ex
  refine ⟨ws, W.l5, W.w, ?_⟩
  have q : ∀ x ∈ ws.take k, x ∈ ws := fun x hx => List.mem_of_mem_take hx
  rcases g with g | ⟨a, b, rfl, ga, gb⟩ | rfl
  · have := gen_rd g q; exact ⟨this.1, this.2, q⟩
  · have h1 := gen_rd ga q; have h2 := gen_rd gb q; exact ⟨⟨h1.1, h2.1⟩, ⟨h1.2, h2.2⟩, q⟩
  · exact ⟨trivial, trivial, q⟩
/-- what is handed on of a drawn program -/
structure HandOk (ins : List Str) (p : Part) (U : List Str) : Prop where
  prog : ProgOk ins p
  u : U.length ≤ 5
  uw : ∀ x ∈ U, wordB x = true
  rd : rdIn U p
  ps : psIn U p
  sz : p.size + 5 * p.calls ≤ 200
  cs : p.cs6 (fun _ => 0) ≤ 10000
  dp : p.dpt (fun _ => 0) ≤ 130
  d14 : p.dep ≤ 14
  w4 : p.wid ≤ 4
theorem fw0 (U : List Str) : FwOk U (fun _ => none) := fun g M e => by cases e
theorem HandOk.fit {ins : List Str} {p : Part} {U : List Str} (h : HandOk ins p U) : fitH p (fun _ => none) := fit_of U (by have := h.u; omega) p _ (fw0 U) h.rd h.ps
theorem HandOk.size {ins : List Str} {p : Part} {U : List Str} (h : HandOk ins p U) : (hand0 ins p).size ≤ 200 := by
  have := hm_size 5 p U (fun _ => none) h.u (fw0 U) h.rd
  have := h.sz
  unfold hand0; omega
theorem HandOk.progOk {ins : List Str} {p : Part} {U : List Str} (h : HandOk ins p U) : ProgOk ins (hand0 ins p) := by
  have O := h.prog
  have h1 := hm_dep p (fun _ => none)
  have h2 := hm_wid U p (fun _ => none) (fw0 U) h.rd
  have h3 := h.u
  have h4 := h.d14
  have h5 := h.w4
  refine ⟨O.il, O.nd, O.iw, ?_, h.size, by unfold hand0; omega, by unfold hand0; omega⟩
  have := hm_ok U h.uw p ins ins (fun _ => none) (fun _ => none) O.ok (fw0 U) h.rd h.fit (fun f n e => by cases e) (wt_scope p ins (fun _ => none) _ O.ok fun f L e => by cases e)
  have e : faH (fun _ => none) (fun _ => none) = fun _ => none := by funext g; rfl
  rw [e] at this
  exact this
theorem HandOk.runOk {ins : List Str} {p : Part} {U : List Str} (h : HandOk ins p U) {ns : List Int} (hl : ns.length = ins.length) (hr : ∀ n ∈ ns, 0 ≤ n ∧ n ≤ 99) : RunOk ins (hand0 ins p) ns := by
  have h1 := hm_dpt p ins (fun _ => none) (fun _ => none) (fun _ => 0) (fun _ => 0) h.prog.ok (fun _ => Nat.le_refl _) fun f n e => by cases e
  have h2 := hm_cst p U (fun _ => none) (fun _ => 0) (fun _ => 0) (by have := h.u; omega) (fw0 U) h.rd fun _ => Nat.le_refl _
  have h3 := h.dp
  have h4 := h.cs
  exact ⟨h.progOk, hl, hr, by unfold hand0; omega, by unfold hand0; omega⟩
theorem HandOk.sim {ins : List Str} {p : Part} {U : List Str} (h : HandOk ins p U) (m : Bool) (ns : List Int) : So (mean false ins p ns) (mean m ins (hand0 ins p) ns) :=
  hsim m p ins (fun _ => none) (fun _ => none) _ _ _ _ h.prog.ok (fun _ _ => rfl) fun f n e => by cases e
theorem Drawn.hand {d : Int} {ins : List Str} {p : Part} (h : Drawn d ins p) (h4 : d ≤ 4) (hs : p.size + 5 * p.calls ≤ 200) : ∃ U, HandOk ins p U := by
  obtain ⟨U, u, uw, rd, ps, _⟩ := h.rdw
  have dd := h.dpt (by omega : d ≤ 5)
  have O := h.okP (by omega : d ≤ 5)
  have dw : p.dep ≤ 14 ∧ p.wid ≤ 4 := by
    obtain ⟨ws, k, W, hk, rfl, g⟩ := h.ex
    have gd : gdep d ≤ 13 := by unfold gdep; split <;> omega
    have ok1 : ∀ {q}, Gen ws d (ws.take k) [] q → q.dep ≤ 13 ∧ q.wid ≤ 4 := fun g => by
      have h2 := gen_dep g
      exact ⟨by omega, gen_wid g fun e he => by simp at he⟩
    rcases g with g | ⟨a, b, rfl, ga, gb⟩ | rfl
    · obtain ⟨h2, h3⟩ := ok1 g; exact ⟨by omega, h3⟩
    · obtain ⟨h2, h3⟩ := ok1 ga
      obtain ⟨i2, i3⟩ := ok1 gb
      simp only [Part.dep, Part.wid]
      exact ⟨by omega, by omega⟩
    · simp [Part.dep, Part.wid]
  exact ⟨U, O, u, uw, rd, ps, hs, h.cs6 h4, by omega, dw.1, dw.2⟩
end BN
namespace BN
open PySem L2 PyProof.Rows
/-! ### k11: the law's own -/
mutual
def clo : Part → List Str → Prop
  | .num _, _ => True
  | .name x, ns => x ∈ ns
  | .add a b, ns => clo a ns ∧ clo b ns
  | .less a b, ns => clo a ns ∧ clo b ns
  | .ite c a b, ns => clo c ns ∧ clo a ns ∧ clo b ns
  | .say a, ns => clo a ns
  | .lt x a b, ns => clo a ns ∧ clo b (ns ++ [x])
  | .fn _ ps b r, ns => clo b ps ∧ clo r ns
  | .call _ as, ns => clos as ns
def clos : Parts → List Str → Prop
  | .nil, _ => True
  | .cons p r, ns => clo p ns ∧ clos r ns
end
theorem clos_of {ns : List Str} : ∀ {l : List Part}, (∀ a ∈ l, clo a ns) → clos (Parts.of l) ns
  | [], _ => trivial
  | p :: r, h => ⟨h p (List.mem_cons_self ..), clos_of fun a ha => h a (List.mem_cons_of_mem _ ha)⟩
theorem clos_in {ns : List Str} : ∀ {as : Parts}, clos as ns → ∀ q ∈ as.list, clo q ns
  | .nil, _, q, h => by cases h
  | .cons p r, h, q, hq => by
    simp only [clos] at h
    rcases List.mem_cons.mp (by simpa [Parts.list] using hq : q ∈ p :: r.list) with rfl | z
    · exact h.1
    · exact clos_in h.2 q z
mutual
theorem hm_clo : ∀ (p : Part) (fs : FW) (ns : List Str), (∀ x ∈ wt p fs, x ∈ ns) → clo (hm p fs) ns
  | .num _, fs, ns, N => trivial
  | .name x, fs, ns, N => N x (by simp [wt])
  | .add a b, fs, ns, N => by
    have N : ∀ x, x ∈ wt a fs ∨ x ∈ wt b fs → x ∈ ns := fun x hx => N x (by simp only [wt, mem_srtS, List.mem_append]; exact hx)
    simp only [hm, clo]
    exact ⟨hm_clo a fs ns fun x hx => N x (.inl hx), hm_clo b fs ns fun x hx => N x (.inr hx)⟩
  | .less a b, fs, ns, N => by
    have N : ∀ x, x ∈ wt a fs ∨ x ∈ wt b fs → x ∈ ns := fun x hx => N x (by simp only [wt, mem_srtS, List.mem_append]; exact hx)
    simp only [hm, clo]
    exact ⟨hm_clo a fs ns fun x hx => N x (.inl hx), hm_clo b fs ns fun x hx => N x (.inr hx)⟩
  | .ite c a b, fs, ns, N => by
    have N : ∀ x, x ∈ wt c fs ∨ x ∈ wt a fs ∨ x ∈ wt b fs → x ∈ ns := fun x hx => N x (by simp only [wt, mem_srtS, List.mem_append]; exact hx)
    simp only [hm, clo]
    exact ⟨hm_clo c fs ns fun x hx => N x (.inl hx), hm_clo a fs ns fun x hx => N x (.inr (.inl hx)), hm_clo b fs ns fun x hx => N x (.inr (.inr hx))⟩
  | .say a, fs, ns, N => by simp only [hm, clo]; exact hm_clo a fs ns fun x hx => N x (by simp only [wt, mem_srtS]; exact hx)
  | .lt y a b, fs, ns, N => by
    have N : ∀ x, x ∈ wt a fs ∨ (x ∈ wt b fs ∧ x ∉ [y]) → x ∈ ns := fun x hx => N x (by simp only [wt, mem_srtS, List.mem_append, mem_outP]; exact hx)
    simp only [hm, clo]
    refine ⟨hm_clo a fs ns fun x hx => N x (.inl hx), hm_clo b fs (ns ++ [y]) fun x hx => ?_⟩
    by_cases q : x ∈ [y]
    · exact List.mem_append_right _ q
    · exact List.mem_append_left _ (N x (.inr ⟨hx, q⟩))
  | .fn f ps b r, fs, ns, N => by
    simp only [hm, clo]
    refine ⟨hm_clo b fs _ fun x hx => ?_, hm_clo r _ ns fun x hx => N x (by simp only [wt]; exact hx)⟩
    by_cases q : x ∈ ps
    · exact List.mem_append_left _ q
    · exact List.mem_append_right _ (mem_outP.mpr ⟨hx, q⟩)
  | .call f as, fs, ns, N => by
    have N : ∀ x, x ∈ (fs f).getD [] ∨ x ∈ wts as fs → x ∈ ns := fun x hx => N x (by simp only [wt, mem_srtS, List.mem_append]; exact hx)
    simp only [hm, clo]
    refine clos_of fun a ha => ?_
    rcases List.mem_append.mp ha with z | z
    · exact clos_in (hms_clo as fs ns fun x hx => N x (.inr hx)) a z
    · obtain ⟨x, hx, rfl⟩ := List.mem_map.mp z
      exact N x (.inl hx)
theorem hms_clo : ∀ (as : Parts) (fs : FW) (ns : List Str), (∀ x ∈ wts as fs, x ∈ ns) → clos (hms as fs) ns
  | .nil, fs, ns, N => trivial
  | .cons p r, fs, ns, N => by
    simp only [hms, clos]
    exact ⟨hm_clo p fs ns fun x hx => N x (by simp only [wts, List.mem_append]; exact .inl hx), hms_clo r fs ns fun x hx => N x (by simp only [wts, List.mem_append]; exact .inr hx)⟩
end
theorem clo_flat {ns : List Str} {p : Part} (hf : flatP p = true) (h : clo p ns) : ∀ q ∈ p.inner, clo q ns := by
  intro q hq
  cases p <;> simp only [Part.inner, List.mem_cons, List.not_mem_nil, or_false] at hq <;> simp only [clo] at h
  · rcases hq with rfl | rfl
    · exact h.1
    · exact h.2
  · rcases hq with rfl | rfl
    · exact h.1
    · exact h.2
  · rcases hq with rfl | rfl | rfl
    · exact h.1
    · exact h.2.1
    · exact h.2.2
  · subst hq; exact h
  · simp [flatP] at hf
  · simp [flatP] at hf
  · exact clos_in h q hq
def spLClosed (K : PySem.W.Frag) (n : Nat) : Sp := fun vs H Q _ => ∃ (v : V) (an : Addr) (pt : Part) (names : List Str), vs = [v, .ref an] ∧ Dp K H v pt.enc ∧ H an = some (.lst (names.map V.str)) ∧ clo pt names ∧ pt.dep ≤ n ∧ pt.wid ≤ 1000 ∧ names.length + pt.size ≤ 5000 ∧ pt.size ≤ 1000 ∧
  ∀ H', Fr c0 H H' → Q (.bl true) H'
theorem boolsT_inv {K : PySem.W.Frag} {H : Hp} : ∀ {vs : List V} {ds : List PyData}, DpAll K H vs ds → (∀ d ∈ ds, d = .bool true) → ∃ bs : List Bool, vs = bs.map V.bl ∧ bs.all id = true
  | _, _, .nil, _ => ⟨[], rfl, rfl⟩
  | _, _, .cons r t, h => by
    have e := h _ (List.mem_cons_self ..)
    subst e
    obtain ⟨bs, rfl, hb⟩ := boolsT_inv t fun d hd => h d (List.mem_cons_of_mem _ hd)
    cases r
    exact ⟨true :: bs, rfl, by simp [hb]⟩
theorem lclosed_tail {K : PySem.W.Frag} {n : Nat} {pt : Part} {t an : Addr} {names : List Str} {H : Hp} {Q R : VK} (hf : flatP pt = true) (hd : Dp K H (.ref t) pt.enc) (hn : H an = some (.lst (names.map V.str))) (hc : clo pt names) (o1 : pt.dep ≤ n + 1) (o2 : pt.wid ≤ 1000) (o3 : names.length + pt.size ≤ 5000) (o4 : pt.size ≤ 1000)
    (q : ∀ H', Fr c0 H H' → Q (.bl true) H') :
    (tRet (tCB (rAll K) (tCons (tLc (iList K (tCall (spInner K) [] C8.E0 (tCons (tVar 0) tNil))) (gName 3) tYes (tCall (spLClosed K n) [] C8.E0 (tCons (tVar 3) (tCons (tVar 1) tNil))) [3]) tNil)))
      { nx := fun _ H' => R .non H', rt := Q } [some (.ref t), some (.ref an), some (.str pt.word), none] H := by
  refine ⟨_, rfl, .ref t, pt, rfl, hd, fun D0 ws H1 f1 hD0 e0 da => ⟨D0, rfl, ⟨ws, SqL.of e0⟩, ?_⟩⟩
  have li := len_inner pt
  have lw : ws.length = pt.inner.length := by rw [da.len, List.length_map]
  refine lcG_list (K := K) (C := c0) (I := fun _ => True) (Good := fun i d => d = .bool true) (SqL.of e0) (fun _ z => z) (fun _ _ _ _ _ => trivial) (fun _ _ _ z => z) trivial (by omega) ?_ ?_
  · intro i x hx' H' f' _ Q' hQ'
    obtain ⟨dd, hdd, Dx⟩ := da.getV hx'
    obtain ⟨q', hq, rfl⟩ := map_at hdd
    have hm := List.mem_of_getElem? hq
    have h1 := dep_inner pt q' hm
    have h2 := wid_inner pt q' hm
    have h3 := sizesL_le pt.inner (i + 1)
    rw [sizesL_more hq] at h3
    have h4 := size_inner pt
    exact ⟨_, rfl, _, rfl, x, an, q', names, rfl, Dp.fr f' _ _ (tup_enc q') Dx, (f1.trans f').at hn (fun z => z), clo_flat hf hc q' hm, by omega, by omega, by omega, by omega, fun H2 f2 => hQ' _ _ H2 rfl rfl (.bl true) f2 trivial⟩
  · intro D vs ds H2 hD eD dD ld gd f2 _
    obtain ⟨bs, rfl, hb⟩ := boolsT_inv dD fun d hd => by
      obtain ⟨k, hk⟩ := List.getElem?_of_mem hd
      exact (gd k d hk).1
    refine ⟨D, bs, rfl, SqL.of eD, ?_⟩
    rw [hb]; exact q H2 (f1.trans f2)
def t_lclosed (K : PySem.W.Frag) (n : Nat) : TS :=
  (tSeq (tAsg (tOp (rIxT K) (tVar 0) (tC (.int 0))) (gName 2))
    (tSeq (tIfS (tTest (tOp rEq (tVar 2) (tC (.str "name")))) (tRet (tOp (rIn K false) (tOp (rIxT K) (tVar 0) (tC (.int 1))) (tVar 1))) tNext)
    (tSeq (tIfS (tTest (tOp rEq (tVar 2) (tC (.str "let")))) (tRet (tAndV (tCall (spLClosed K n) [] C8.E0 (tCons (tOp (rIxT K) (tVar 0) (tC (.int 2))) (tCons (tVar 1) tNil))) (tCall (spLClosed K n) [] C8.E0 (tCons (tOp (rIxT K) (tVar 0) (tC (.int 3))) (tCons (tOp rCat (tVar 1) (tLst (tCons (tOp (rIxT K) (tVar 0) (tC (.int 1))) tNil))) tNil))))) tNext)
    (tSeq (tIfS (tTest (tOp rEq (tVar 2) (tC (.str "fun")))) (tRet (tAndV (tCall (spLClosed K n) [] C8.E0 (tCons (tOp (rIxT K) (tVar 0) (tC (.int 3))) (tCons (tCB (rListSq K) (tCons (tOp (rIxT K) (tVar 0) (tC (.int 2))) tNil)) tNil))) (tCall (spLClosed K n) [] C8.E0 (tCons (tOp (rIxT K) (tVar 0) (tC (.int 4))) (tCons (tVar 1) tNil))))) tNext)
    (tRet (tCB (rAll K) (tCons (tLc (iList K (tCall (spInner K) [] C8.E0 (tCons (tVar 0) tNil))) (gName 3) tYes (tCall (spLClosed K n) [] C8.E0 (tCons (tVar 3) (tCons (tVar 1) tNil))) [3]) tNil)))))))
theorem pure_lclosed {K : PySem.W.Frag} {n : Nat} (vs : List V) (H : Hp) (Q : VK) (E : XK) (h : spLClosed K (n + 1) vs H Q E) : t_lclosed K n { nx := fun _ H' => Q .non H', rt := Q } (start ["part", "names", "word", "one"] vs) H := by
  obtain ⟨v, an, pt, names, rfl, hd, hn, hc, o1, o2, o3, o4, q⟩ := h
  obtain ⟨t, xs, rfl, hT, hx⟩ := inv_head hd
  refine ⟨_, rfl, t, _, _, _, rfl, rfl, hT, atI_nat (j := 0) rfl, ?_⟩
  cases pt
  case name x =>
    obtain ⟨t', e, hT3⟩ := inv_name hd
    cases e
    refine ⟨_, rfl, rfl, _, rfl, ifT (by kernel_rfl) ?_⟩
    refine ⟨_, rfl, t, _, _, _, rfl, rfl, hT3, rfl, _, rfl, an, _, rfl, .inl (SqL.of hn), rfl, flatV_strs _, ?_⟩
    rw [if_neg (by simp), inV_strs (by simpa only [clo] using hc)]
    exact q H (Fr.refl _)
  case lt x a b =>
    obtain ⟨t', va, vb, e, hT3, da, db⟩ := inv_lt hd
    cases e
    simp only [clo, Part.dep, Part.wid, Part.size] at hc o1 o2 o3 o4
    have sa := size_pos a
    have sb := size_pos b
    refine ⟨_, rfl, rfl, _, rfl, ifF (by kernel_rfl) ?_⟩
    refine ⟨_, rfl, rfl, _, rfl, ifT (by kernel_rfl) ?_⟩
    refine ⟨_, rfl, t, _, _, _, rfl, rfl, hT3, rfl, _, rfl, va, an, a, names, rfl, da, hn, hc.1, by omega, by omega, by omega, by omega, fun H1 f1 => ⟨_, rfl, iteT ?_⟩⟩
    have hn1 := f1.at hn (fun z => z)
    refine ⟨_, rfl, t, _, _, _, rfl, rfl, f1.sqT hT3, rfl, _, rfl, _, rfl, t, _, _, _, rfl, rfl, f1.sqT hT3, rfl, one_sz (by show 1 ≤ 1000; decide), fun l hl => ?_⟩
    have f2 : Fr c0 H1 (upd H1 l (.lst [.str x])) := Fr.new hl
    refine ⟨an, l, _, _, rfl, rfl, f2.at hn1 (fun z => z), upd_same, Nat.le_of_lt (sz_lt' (by rw [List.length_map]; show names.length + 1 ≤ _; omega)), fun m hm => ?_⟩
    have f3 : Fr c0 (upd H1 l (.lst [.str x])) (upd (upd H1 l (.lst [.str x])) m (.lst (names.map V.str ++ [.str x]))) := Fr.new hm
    have f03 := f1.trans (f2.trans f3)
    exact ⟨vb, m, b, names ++ [x], rfl, Dp.fr f03 _ _ (tup_enc b) db, by rw [upd_same, List.map_append]; rfl, hc.2, by omega, by omega, by rw [List.length_append]; show names.length + 1 + _ ≤ _; omega, by omega, fun H4 f4 => q H4 (f03.trans f4)⟩
  case fn f ps b r =>
    obtain ⟨t', tp, vb, vr, e, hT3, hTp, db, dr⟩ := inv_fn hd
    cases e
    simp only [clo, Part.dep, Part.wid, Part.size] at hc o1 o2 o3 o4
    have sb := size_pos b
    have sr := size_pos r
    refine ⟨_, rfl, rfl, _, rfl, ifF (by kernel_rfl) ?_⟩
    refine ⟨_, rfl, rfl, _, rfl, ifF (by kernel_rfl) ?_⟩
    refine ⟨_, rfl, rfl, _, rfl, ifT (by kernel_rfl) ?_⟩
    refine ⟨_, rfl, t, _, _, _, rfl, rfl, hT3, rfl, _, rfl, t, _, _, _, rfl, rfl, hT3, rfl, tp, _, rfl, .inr hTp, fun l hl => ?_⟩
    have f1 : Fr c0 H (upd H l (.lst (ps.map V.str))) := Fr.new hl
    refine ⟨vb, l, b, ps, rfl, Dp.fr f1 _ _ (tup_enc b) db, upd_same, hc.1, by omega, by omega, by omega, by omega, fun H2 f2 => ⟨_, rfl, iteT ?_⟩⟩
    have f02 := f1.trans f2
    exact ⟨_, rfl, t, _, _, _, rfl, rfl, f02.sqT hT3, rfl, _, rfl, vr, an, r, names, rfl, Dp.fr f02 _ _ (tup_enc r) dr, f02.at hn (fun z => z), hc.2, by omega, by omega, by omega, by omega, fun H3 f3 => q H3 (f02.trans f3)⟩
  all_goals
    refine ⟨_, rfl, rfl, _, rfl, ifF (by kernel_rfl) ?_⟩
    refine ⟨_, rfl, rfl, _, rfl, ifF (by kernel_rfl) ?_⟩
    refine ⟨_, rfl, rfl, _, rfl, ifF (by kernel_rfl) ?_⟩
    exact lclosed_tail rfl hd hn hc o1 o2 o3 o4 q
/-! ### the law's funs -/
abbrev FnE := Str × List Str
def encFn (e : FnE) : PyData := .tuple [.str e.1, .tuple (e.2.map .str)]
theorem tup_encFn (l : List FnE) : tupDs (l.map encFn) = true := tupDs_all fun d hd => by
  obtain ⟨e, _, rfl⟩ := List.mem_map.mp hd
  simp [encFn, tupD, tupDs, tupDs_str]
mutual
def fnl : Part → List FnE
  | .num _ => []
  | .name _ => []
  | .add a b => fnl a ++ fnl b
  | .less a b => fnl a ++ fnl b
  | .ite c a b => fnl c ++ (fnl a ++ fnl b)
  | .say a => fnl a
  | .lt _ a b => fnl a ++ fnl b
  | .fn f ps b r => (f, ps) :: (fnl b ++ fnl r)
  | .call _ as => fnls as
def fnls : Parts → List FnE
  | .nil => []
  | .cons p r => fnl p ++ fnls r
end
def fnH : Part → List FnE
  | .fn f ps _ _ => [(f, ps)]
  | _ => []
theorem fnls_list : ∀ as : Parts, fnls as = as.list.flatMap fnl
  | .nil => by simp [fnls, Parts.list]
  | .cons p r => by simp [fnls, Parts.list, fnls_list r]
theorem fnl_eq (p : Part) : fnl p = fnH p ++ p.inner.flatMap fnl := by
  cases p <;> simp [fnl, fnH, Part.inner, fnls_list]
mutual
theorem fnl_len : ∀ p : Part, (fnl p).length ≤ p.size
  | .num _ => Nat.zero_le _
  | .name _ => Nat.zero_le _
  | .add a b => by have := fnl_len a; have := fnl_len b; simp only [fnl, Part.size, List.length_append]; omega
  | .less a b => by have := fnl_len a; have := fnl_len b; simp only [fnl, Part.size, List.length_append]; omega
  | .ite c a b => by have := fnl_len c; have := fnl_len a; have := fnl_len b; simp only [fnl, Part.size, List.length_append]; omega
  | .say a => by have := fnl_len a; simp only [fnl, Part.size]; omega
  | .lt _ a b => by have := fnl_len a; have := fnl_len b; simp only [fnl, Part.size, List.length_append]; omega
  | .fn f ps b r => by have := fnl_len b; have := fnl_len r; simp only [fnl, Part.size, List.length_append, List.length_cons]; omega
  | .call _ as => by have := fnls_len as; simp only [fnl, Part.size]; omega
theorem fnls_len : ∀ as : Parts, (fnls as).length ≤ as.size
  | .nil => Nat.zero_le _
  | .cons p r => by have := fnl_len p; have := fnls_len r; simp only [fnls, Parts.size, List.length_append]; omega
end
def spLFuns (K : PySem.W.Frag) (n : Nat) : Sp := fun vs H Q _ => ∃ (v : V) (pt : Part), vs = [v] ∧ Dp K H v pt.enc ∧ pt.dep ≤ n ∧ pt.wid ≤ 1000 ∧ pt.size ≤ 1000 ∧
  ∀ D us H', Fr c0 H H' → H D = none → H' D = some (.lst us) → DpAll K H' us ((fnl pt).map encFn) → Q (.ref D) H'
theorem fnl_take (pt : Part) (i : Nat) : (fnH pt ++ (pt.inner.take i).flatMap fnl).length ≤ pt.size := by
  have h1 := fnl_len pt
  rw [fnl_eq] at h1
  have h2 := flat_take_len fnl pt.inner i
  rw [List.length_append] at h1 ⊢
  omega
theorem lfuns_tail {K : PySem.W.Frag} {n : Nat} {pt : Part} {t L : Addr} {us0 : List V} {H0 H1 : Hp} {Q : VK} (f0 : Fr c0 H0 H1) (hL0 : H0 L = none) (hd : Dp K H1 (.ref t) pt.enc) (hL : H1 L = some (.lst us0)) (d0 : DpAll K H1 us0 ((fnH pt).map encFn)) (o1 : pt.dep ≤ n + 1) (o2 : pt.wid ≤ 1000) (o3 : pt.size ≤ 1000)
    (q : ∀ D us H', Fr c0 H0 H' → H0 D = none → H' D = some (.lst us) → DpAll K H' us ((fnl pt).map encFn) → Q (.ref D) H') :
    (tSeq (tFor (iList K (tCall (spInner K) [] C8.E0 (tCons (tVar 0) tNil))) (gName 2) (tDrop (tBM K "list" rExtend (tVar 1) (tCons (tCall (spLFuns K n) [] C8.E0 (tCons (tVar 2) tNil)) tNil))))
      (tRet (tVar 1))) { nx := fun _ H' => Q .non H', rt := Q } [some (.ref t), some (.ref L), none] H1 := by
  refine ⟨_, rfl, .ref t, pt, rfl, hd, fun D ws H2 f1 hD0 e da => ⟨D, rfl, ⟨ws, SqL.of e⟩, ?_⟩⟩
  have hL2 := f1.at hL (fun z => z)
  have nDL : L ≠ D := fun z => by rw [z] at hL; rw [hL] at hD0; cases hD0
  refine for_list (K := K) (a := D) (xs := ws) (fun i σ H' => ∃ u us, σ = [some (.ref t), some (.ref L), u] ∧ Fr (cI L) H2 H' ∧ Fr c0 H0 H' ∧ H' L = some (.lst us) ∧ DpAll K H' us ((fnH pt ++ (pt.inner.take i).flatMap fnl).map encFn))
    ⟨_, us0, rfl, Fr.refl _, f0.trans f1, hL2, by simpa using Dp.sms f1 _ _ d0⟩ (fun i σ H' _ ⟨_, _, _, f', _⟩ => SqL.of (f'.at e (fun z => nDL z.symm))) ?_ ?_
  · rintro i x σ H3 hi ⟨u, us, rfl, f3, f03, hL3, d3⟩
    obtain ⟨dd, hdd, Dx⟩ := da.getV hi
    obtain ⟨q', hq, rfl⟩ := map_at hdd
    have hm := List.mem_of_getElem? hq
    have h1 := dep_inner pt q' hm
    have h2 := wid_inner pt q' hm
    have h3 := sizesL_le pt.inner (i + 1)
    rw [sizesL_more hq] at h3
    have h4 := size_inner pt
    have h5 := fnl_take pt i
    have h6 := fnl_len q'
    have l3 := d3.len
    rw [List.length_map] at l3
    refine ⟨_, rfl, .inl ⟨rfl, _, SqL.of hL3⟩, ?_⟩
    refine ⟨_, rfl, x, q', rfl, Dp.fr f3 _ _ (tup_enc q') Dx, by omega, by omega, by omega, fun D2 us2 H4 f4 hD2 eD2 d4 => ?_⟩
    have l4 := d4.len
    rw [List.length_map] at l4
    have hL4 := f4.at hL3 (fun z => z)
    refine ⟨L, D2, _, _, rfl, rfl, hL4, eD2, Nat.le_of_lt (sz_lt' (by omega)), ?_⟩
    have g : Fr (cI L) H4 (upd H4 L (.lst (us ++ us2))) := Fr.set hL4 rfl trivial
    refine ⟨_, us ++ us2, rfl, (f3.trans (Fr.of0 f4)).trans g, (f03.trans f4).fresh hL0, upd_same, ?_⟩
    rw [flat_snoc hq, ← List.append_assoc, List.map_append (l₂ := fnl q')]
    exact (Dp.frs g _ _ (tup_encFn _) (Dp.sms f4 _ _ d3)).append (Dp.frs g _ _ (tup_encFn _) d4)
  · rintro σ H3 ⟨u, us, rfl, f3, f03, hL3, d3⟩
    have hl : ws.length = pt.inner.length := by rw [da.len, List.length_map]
    rw [hl, List.take_length, ← fnl_eq] at d3
    exact ⟨_, rfl, q L us H3 f03 hL0 hL3 d3⟩
def t_lfuns (K : PySem.W.Frag) (n : Nat) : TS :=
  (tSeq (tAsg (tLst tNil) (gName 1))
    (tSeq (tIfS (tTest (tOp rEq (tOp (rIxT K) (tVar 0) (tC (.int 0))) (tC (.str "fun")))) (tDrop (tBM K "list" rAppend (tVar 1) (tCons (tTup (tCons (tOp (rIxT K) (tVar 0) (tC (.int 1))) (tCons (tOp (rIxT K) (tVar 0) (tC (.int 2))) tNil))) tNil))) tNext)
    (tSeq (tFor (iList K (tCall (spInner K) [] C8.E0 (tCons (tVar 0) tNil))) (gName 2) (tDrop (tBM K "list" rExtend (tVar 1) (tCons (tCall (spLFuns K n) [] C8.E0 (tCons (tVar 2) tNil)) tNil))))
    (tRet (tVar 1)))))
theorem pure_lfuns {K : PySem.W.Frag} {n : Nat} (vs : List V) (H : Hp) (Q : VK) (E : XK) (h : spLFuns K (n + 1) vs H Q E) : t_lfuns K n { nx := fun _ H' => Q .non H', rt := Q } (start ["part", "found", "one"] vs) H := by
  obtain ⟨v, pt, rfl, hd, o1, o2, o3, q⟩ := h
  obtain ⟨t, xs, rfl, hT, hx⟩ := inv_head hd
  refine ⟨one_sz (Nat.zero_le _), fun L hL => ?_⟩
  have f1 : Fr c0 H (upd H L (.lst [])) := Fr.new hL
  have hL1 : (upd H L (.lst [])) L = some (.lst []) := upd_same
  have hd1 := Dp.fr f1 _ _ (tup_enc pt) hd
  have hT1 := f1.sqT hT
  generalize (upd H L (.lst [])) = H1 at f1 hL1 hd1 hT1 ⊢
  cases pt
  case fn f ps b r =>
    obtain ⟨t', tp, va, vb, e, hT3, hTp, da, db⟩ := inv_fn hd1
    cases e
    refine ⟨_, rfl, t, _, _, _, rfl, rfl, hT1, atI_nat (j := 0) rfl, rfl, _, rfl, ifT (by kernel_rfl) ?_⟩
    refine ⟨_, rfl, .inl ⟨rfl, _, SqL.of hL1⟩, _, rfl, t, _, _, _, rfl, rfl, hT3, rfl, _, rfl, t, _, _, _, rfl, rfl, hT3, rfl, one_sz (by show 2 ≤ 1000; decide), fun u hu => ?_⟩
    have f2 : Fr c0 H1 (upd H1 u (.tup [.str f, .ref tp])) := Fr.new hu
    have hL2 := f2.at hL1 (fun z => z)
    refine ⟨L, _, _, rfl, rfl, hL2, sz_lt' (Nat.zero_le _), ?_⟩
    have g : Fr (cI L) (upd H1 u (.tup [.str f, .ref tp])) (upd (upd H1 u (.tup [.str f, .ref tp])) L (.lst ([] ++ [.ref u]))) := Fr.set hL2 rfl trivial
    have g1 := (Fr.of0 (C := cI L) f2).trans g
    refine lfuns_tail (pt := .fn f ps b r) ((f1.trans f2).fresh hL) hL (Dp.fr g1 _ _ (tup_enc _) hd1) upd_same ?_ o1 o2 o3 q
    exact .cons (.tup (g.sqT (SqT.of upd_same)) (.cons (.str _) (.cons (.tup (g1.sqT hTp) (DpAll.strs _)) .nil))) .nil
  all_goals
    refine ⟨_, rfl, t, _, _, _, rfl, rfl, hT1, atI_nat (j := 0) rfl, rfl, _, rfl, ifF (by kernel_rfl) ?_⟩
    exact lfuns_tail f1 hL hd1 hL1 .nil o1 o2 o3 q
/-! ### the law's calls -/
theorem calls_list : ∀ as : Parts, (as.list.map Part.calls).sum = as.calls
  | .nil => rfl
  | .cons p r => by simp only [Parts.list, List.map_cons, List.sum_cons, Parts.calls, calls_list r]
def callH : Part → Nat
  | .call _ _ => 1
  | _ => 0
theorem calls_eq (p : Part) : p.calls = callH p + (p.inner.map Part.calls).sum := by
  cases p <;> simp [Part.calls, callH, Part.inner, calls_list]
def spCalls (K : PySem.W.Frag) (n : Nat) : Sp := fun vs H Q _ => ∃ (v : V) (p : Part), vs = [v] ∧ Dp K H v p.enc ∧ p.dep ≤ n ∧ p.wid ≤ 1000 ∧ ∀ H', Fr c0 H H' → Q (.int (p.calls : Int)) H'
def t_calls (K : PySem.W.Frag) (n : Nat) : TS :=
  (tRet (tOp oAdd (tCB rInt1 (tCons (tOp rEq (tOp (rIxT K) (tVar 0) (tC (.int 0))) (tC (.str "call"))) tNil)) (tCB (rSum K) (tCons (tLc (iList K (tCall (spInner K) [] C8.E0 (tCons (tVar 0) tNil))) (gName 1) tYes (tCall (spCalls K n) [] C8.E0 (tCons (tVar 1) tNil)) [1]) tNil))))
theorem sum_cast : ∀ l : List Nat, (l.map (fun (n : Nat) => (n : Int))).sum = ((l.sum : Nat) : Int)
  | [] => rfl
  | a :: r => by rw [List.map_cons, List.sum_cons, sum_cast r, List.sum_cons]; omega
theorem pure_calls {K : PySem.W.Frag} {n : Nat} (vs : List V) (H : Hp) (Q : VK) (E : XK) (h : spCalls K (n + 1) vs H Q E) : t_calls K n { nx := fun _ H' => Q .non H', rt := Q } (start ["part", "one"] vs) H := by
  obtain ⟨v, pt, rfl, hd, o1, o2, q⟩ := h
  obtain ⟨t, xs, rfl, hT, hx⟩ := inv_head hd
  have eb : (if decide (V.str pt.word = V.str "call") = true then (1 : Int) else 0) = (callH pt : Int) := by
    cases pt <;> first | (rw [show decide (V.str (Part.word _) = V.str "call") = true from by kernel_rfl]; rfl) | (rw [show decide (V.str (Part.word _) = V.str "call") = false from by kernel_rfl]; rfl)
  refine ⟨_, rfl, t, _, _, _, rfl, rfl, hT, atI_nat (j := 0) rfl, rfl, .inr ⟨_, rfl, ?_⟩⟩
  refine ⟨_, rfl, .ref t, pt, rfl, hd, fun D0 ws H1 f1 hD0 e0 da => ⟨D0, rfl, ⟨ws, SqL.of e0⟩, ?_⟩⟩
  have li := len_inner pt
  have lw : ws.length = pt.inner.length := by rw [da.len, List.length_map]
  refine lcG_list (K := K) (C := c0) (I := fun _ => True) (Good := fun i d => ∃ q, pt.inner[i]? = some q ∧ d = .int (q.calls : Int)) (SqL.of e0) (fun _ z => z) (fun _ _ _ _ _ => trivial) (fun _ _ _ z => z) trivial (by omega) ?_ ?_
  · intro i x hx' H' f' _ Q' hQ'
    obtain ⟨dd, hdd, Dx⟩ := da.getV hx'
    obtain ⟨q', hq, rfl⟩ := map_at hdd
    have hm := List.mem_of_getElem? hq
    have h1 := dep_inner pt q' hm
    have h2 := wid_inner pt q' hm
    exact ⟨_, rfl, x, q', rfl, Dp.fr f' _ _ (tup_enc q') Dx, by omega, by omega, fun H2 f2 => hQ' _ _ H2 ⟨q', hq, rfl⟩ rfl (.int _) f2 trivial⟩
  · intro D vs ds H2 hD eD dD ld gd f2 _
    have ed : ds = ((pt.inner.map Part.calls).map (fun (n : Nat) => (n : Int))).map PyData.int := by
      refine List.ext_getElem? fun j => ?_
      by_cases hj : j < pt.inner.length
      · obtain ⟨d, hd⟩ := get_lt (l := ds) (i := j) (by omega)
        obtain ⟨q, hq1, hq2⟩ := (gd j d hd).1
        rw [hd, hq2, List.getElem?_map, List.getElem?_map, List.getElem?_map, hq1]; rfl
      · rw [List.getElem?_eq_none (by omega), List.getElem?_eq_none (by simp; omega)]
    subst ed
    have ev := dD.ints_inv
    subst ev
    refine ⟨D, _, rfl, SqL.of eD, _, _, rfl, rfl, ?_⟩
    rw [eb, sum_cast]
    have := q H2 (f1.trans f2)
    rw [calls_eq] at this
    have e2 : ((callH pt : Int) + (((pt.inner.map Part.calls).sum : Nat) : Int)) = ((callH pt + (pt.inner.map Part.calls).sum : Nat) : Int) := by omega
    show Q (.int _) H2
    rw [e2]; exact this
end BN
namespace BN
open PySem L2 PyProof.Rows
/-! ### goes on -/
inductive GoL (U : List Str) : List FnE → List FnE → Prop
  | nil : GoL U [] []
  | cons {f : Str} {ps L : List Str} {l m : List FnE} : wordB f = true → ps.length ≤ 12 → (∀ x ∈ ps, wordB x = true) → Ris L → (∀ x ∈ L, x ∈ U) → (∀ x ∈ L, x ∉ ps) → GoL U l m → GoL U ((f, ps) :: l) ((f, ps ++ L) :: m)
theorem GoL.app {U : List Str} : ∀ {l m l' m' : List FnE}, GoL U l m → GoL U l' m' → GoL U (l ++ l') (m ++ m')
  | _, _, _, _, .nil, h => h
  | _, _, _, _, .cons a b c d e f g, h => .cons a b c d e f (GoL.app g h)
theorem GoL.len {U : List Str} : ∀ {l m : List FnE}, GoL U l m → l.length = m.length
  | _, _, .nil => rfl
  | _, _, .cons _ _ _ _ _ _ g => by rw [List.length_cons, List.length_cons, GoL.len g]
theorem GoL.names {U : List Str} : ∀ {l m : List FnE}, GoL U l m → m.map (·.1) = l.map (·.1)
  | _, _, .nil => rfl
  | _, _, .cons _ _ _ _ _ _ g => by rw [List.map_cons, List.map_cons, GoL.names g]
theorem GoL.words {U : List Str} : ∀ {l m : List FnE}, GoL U l m → ∀ e ∈ l, wordB e.1 = true
  | _, _, .nil => fun e h => by cases h
  | _, _, .cons a _ _ _ _ _ g => fun e h => by
    rcases List.mem_cons.mp h with rfl | h
    · exact a
    · exact GoL.words g e h
theorem GoL.get {U : List Str} : ∀ {l m : List FnE} {i : Nat} {e : FnE}, GoL U l m → l[i]? = some e → ∃ L, m[i]? = some (e.1, e.2 ++ L) ∧ e.2.length ≤ 12 ∧ (∀ x ∈ e.2, wordB x = true) ∧ Ris L ∧ (∀ x ∈ L, x ∈ U) ∧ ∀ x ∈ L, x ∉ e.2
  | _, _, i, e, .nil, h => by simp at h
  | _, _, 0, e, .cons (f := f) (ps := ps) (L := L) a b c d u n g, h => by
    have q : (f, ps) = e := by simpa using h
    subst q
    exact ⟨L, rfl, b, c, d, u, n⟩
  | _, _, i + 1, e, .cons a b c d u n g, h => by
    obtain ⟨L, h1, h2⟩ := GoL.get g (by simpa using h : _ = some e)
    exact ⟨L, by simpa using h1, h2⟩
theorem fnl_names (L : List Str) : (nmP L).flatMap fnl = [] := by
  rw [List.flatMap_eq_nil_iff]
  intro p hp
  obtain ⟨x, _, rfl⟩ := List.mem_map.mp hp
  rfl
mutual
theorem hm_go (U : List Str) : ∀ (p : Part) (ns : List Str) (fa : FE0) (fs : FW), p.ok ns fa → FwOk U fs → rdIn U p → GoL U (fnl p) (fnl (hm p fs))
  | .num _, ns, fa, fs, ok, W, r => .nil
  | .name _, ns, fa, fs, ok, W, r => .nil
  | .add a b, ns, fa, fs, ok, W, r => by simp only [Part.ok, rdIn] at ok r; simp only [hm, fnl]; exact (hm_go U a ns fa fs ok.1 W r.1).app (hm_go U b ns fa fs ok.2 W r.2)
  | .less a b, ns, fa, fs, ok, W, r => by simp only [Part.ok, rdIn] at ok r; simp only [hm, fnl]; exact (hm_go U a ns fa fs ok.1 W r.1).app (hm_go U b ns fa fs ok.2 W r.2)
  | .ite c a b, ns, fa, fs, ok, W, r => by simp only [Part.ok, rdIn] at ok r; simp only [hm, fnl]; exact (hm_go U c ns fa fs ok.1 W r.1).app ((hm_go U a ns fa fs ok.2.1 W r.2.1).app (hm_go U b ns fa fs ok.2.2 W r.2.2))
  | .say a, ns, fa, fs, ok, W, r => by simp only [Part.ok, rdIn] at ok r; simp only [hm, fnl]; exact hm_go U a ns fa fs ok W r
  | .lt x a b, ns, fa, fs, ok, W, r => by simp only [Part.ok, rdIn] at ok r; simp only [hm, fnl]; exact (hm_go U a ns fa fs ok.2.1 W r.1).app (hm_go U b _ fa fs ok.2.2 W r.2)
  | .fn f ps b r', ns, fa, fs, ok, W, r => by
    simp only [Part.ok, rdIn] at ok r
    have k := kn_ok (ps := ps) W r.1
    simp only [hm, fnl]
    exact .cons ok.1 ok.2.1 ok.2.2.2.1 k.1 k.2 (fun x hx => (mem_outP.mp hx).2) ((hm_go U b _ fa fs ok.2.2.2.2.1 W r.1).app (hm_go U r' ns _ _ ok.2.2.2.2.2 (W.put k.1 k.2) r.2))
  | .call f as, ns, fa, fs, ok, W, r => by
    simp only [Part.ok, rdIn] at ok r
    have h := hms_go U as ns fa fs ok.2 W r
    simp only [hm, fnl, fnls_list, Parts.list_of, List.flatMap_append, fnl_names, List.append_nil]
    rw [← fnls_list, ← fnls_list]; exact h
theorem hms_go (U : List Str) : ∀ (as : Parts) (ns : List Str) (fa : FE0) (fs : FW), as.ok ns fa → FwOk U fs → rdIns U as → GoL U (fnls as) (fnls (hms as fs))
  | .nil, ns, fa, fs, ok, W, r => .nil
  | .cons p q, ns, fa, fs, ok, W, r => by simp only [Parts.ok, rdIns] at ok r; simp only [hms, fnls]; exact (hm_go U p ns fa fs ok.1 W r.1).app (hms_go U q ns fa fs ok.2 W r.2)
end
theorem slA_run {K : PySem.W.Frag} {H : Hp} {a : Addr} {xs : List V} {lo hi : Option Int} {Q : VK} (ha : SqT K H a xs) (q : ∀ c H', Fr c0 H H' → SqT K H' c (cutV xs lo hi) → Q (.ref c) H') : rSlA K (.ref a) lo hi H Q := by
  refine ⟨a, xs, rfl, ha, fun hw => q a H (Fr.refl _) ?_, fun _ c hc => q c _ (Fr.new hc) (SqT.of upd_same)⟩
  have e : cutV xs lo hi = xs := by
    show (xs.drop (HT.sIx xs.length 0 lo)).take (HT.sIx xs.length xs.length hi - HT.sIx xs.length 0 lo) = xs
    rw [hw.1, hw.2]; simp
  rw [e]; exact ha
theorem cut_after (xs ys : List V) : cutV (xs ++ ys) (some (xs.length : Int)) none = ys := by
  show ((xs ++ ys).drop (HT.sIx (xs ++ ys).length 0 (some (xs.length : Int)))).take _ = ys
  rw [HT.sIx_nat, HT.sIx_none, List.length_append, show min xs.length (xs.length + ys.length) = xs.length by omega]
  simp
theorem cut_first (xs ys : List V) : cutV (xs ++ ys) none (some (xs.length : Int)) = xs := by
  show ((xs ++ ys).drop (HT.sIx (xs ++ ys).length 0 none)).take _ = xs
  rw [HT.sIx_nat, HT.sIx_none, List.length_append, show min xs.length (xs.length + ys.length) = xs.length by omega]
  simp
theorem shaped_strW {l : List Str} (h : ∀ x ∈ l, wordB x = true) : SeqAt.shaped (.list (l.map PyData.str)) = true ∧ SeqAt.shaped (.tuple (l.map PyData.str)) = true ∧ PyData.canLay0 (.list (l.map PyData.str)) = true ∧ PyData.canLay0 (.tuple (l.map PyData.str)) = true := by
  have h1 := canStrs l (fun x hx => strOk_word (h x hx))
  have h2 := depStrs l
  have c1 : PyData.canLay0 (.list (l.map PyData.str)) = true := by simp [PyData.canLay0, h1]
  have c2 : PyData.canLay0 (.tuple (l.map PyData.str)) = true := by simp [PyData.canLay0, h1]
  refine ⟨?_, ?_, c1, c2⟩
  · unfold SeqAt.shaped
    rw [Bool.and_eq_true, decide_eq_true_eq]
    exact ⟨c1, by simp only [PyData.depth]; omega⟩
  · unfold SeqAt.shaped
    rw [Bool.and_eq_true, decide_eq_true_eq]
    exact ⟨c2, by simp only [PyData.depth]; omega⟩
def spGoesOn (K : PySem.W.Frag) : Sp := fun vs H Q _ => ∃ (a b : Addr) (us ws : List V) (l m : List FnE) (U : List Str), vs = [.ref a, .ref b] ∧ H a = some (.lst us) ∧ DpAll K H us (l.map encFn) ∧ H b = some (.lst ws) ∧ DpAll K H ws (m.map encFn) ∧ GoL U l m ∧ U.length ≤ 30 ∧ (∀ x ∈ U, wordB x = true) ∧ l.length ≤ 1000 ∧
  ∀ H', Fr c0 H H' → Q (.bl true) H'
theorem inv_fnE {K : PySem.W.Frag} {H : Hp} {v : V} {e : FnE} (h : Dp K H v (encFn e)) : ∃ t tp, v = .ref t ∧ SqT K H t [.str e.1, .ref tp] ∧ SqT K H tp (e.2.map V.str) := by
  obtain ⟨t, xs, rfl, hT, ha⟩ := h.tup_inv
  obtain ⟨a, b, rfl, h1, h2⟩ := all2 ha
  cases h1
  obtain ⟨tp, ys, rfl, hp, hb⟩ := h2.tup_inv
  have := hb.strs_inv
  subst this
  exact ⟨t, tp, rfl, hT, hp⟩
/-- [one[0] for one in xs] -/
theorem heads_lc {K : PySem.W.Frag} {H1 : Hp} {σ : L2.St} {Q : Addr → Hp → Prop} {a : Addr} {us : List V} {l : List FnE} {j : Nat} (hj : j < σ.length) (hx : H1 a = some (.lst us)) (dl : DpAll K H1 us (l.map encFn)) (hn : l.length ≤ 100000)
    (hq : ∀ (D : Addr) (H' : Hp), H1 D = none → H' D = some (.lst ((l.map (·.1)).map V.str)) → Fr c0 H1 H' → Q D H') : ∀ D, H1 D = none →
    ∃ W : Nat → Nat → Hp → Prop, (∃ m, W 0 m (upd H1 D (.lst []))) ∧ ∀ i m H, W i m H →
      ((Itl K a).stop i H ∧ Q D H) ∨ ((Itl K a).go i H ∧ ∃ Nx : Hp → Prop, (∀ H', Nx H' → ∃ m', m' < m ∧ W (i + 1) m' H') ∧ ∀ x H', (Itl K a).yld i H x H' → gName j x (wipe σ [j]) H' fun σ2 H2 => wipe σ2 [j] = wipe σ [j] ∧ tYes σ2 H2 fun b H3 =>
        if b = true then (tOp (rIxT K) (tVar j) (tC (.int 0))) σ2 H3 fun y H4 => ∃ acc, H4 D = some (.lst acc) ∧ acc.length < sizeLine ∧ Nx (upd H4 D (.lst (acc ++ [y]))) else Nx H3) := by
  have l1 : us.length = l.length := by rw [dl.len, List.length_map]
  refine lcG_list (K := K) (C := c0) (I := fun _ => True) (Good := fun i d => ∃ e, l[i]? = some e ∧ d = .str e.1) (SqL.of hx) (fun _ z => z) (fun _ _ _ _ _ => trivial) (fun _ _ _ z => z) trivial (by omega) ?_ ?_
  · intro i x hx' H' f' _ Q' hQ'
    obtain ⟨da, ha, Da⟩ := dl.getV hx'
    obtain ⟨e, he, rfl⟩ := map_at ha
    obtain ⟨t, tp, rfl, hT, _⟩ := inv_fnE (Dp.sm f' _ _ Da)
    refine ⟨_, ?_, t, _, _, _, rfl, rfl, hT, rfl, hQ' _ _ _ ⟨e, he, rfl⟩ rfl (.str _) (Fr.refl _) trivial⟩
    rw [List.getElem?_set_self (by simpa [wipe] using hj)]
  · intro D vs ds H' hD eD dD ld gd f' _
    have ed : ds = (l.map (·.1)).map PyData.str := by
      refine List.ext_getElem? fun q => ?_
      by_cases hq : q < l.length
      · obtain ⟨d, hd⟩ := get_lt (l := ds) (i := q) (by omega)
        obtain ⟨e, he, e2⟩ := (gd q d hd).1
        rw [hd, e2, List.getElem?_map, List.getElem?_map, he]; rfl
      · rw [List.getElem?_eq_none (by omega), List.getElem?_eq_none (by simp; omega)]
    subst ed
    have ev := dD.strs_inv
    subst ev
    exact hq D H' hD eD f'
def t_goeson (K : PySem.W.Frag) (P : Program) (w : World) : TS :=
  (tSeq (tIfS (tTest (tOp (rNeD K) (tLc (iList K (tVar 0)) (gName 5) tYes (tOp (rIxT K) (tVar 5) (tC (.int 0))) [5]) (tLc (iList K (tVar 1)) (gName 5) tYes (tOp (rIxT K) (tVar 5) (tC (.int 0))) [5]))) (tRet (tC (.bl false))) tNext)
    (tSeq (tFor (iRng1 (tCons (tCB (rLenSq K) (tCons (tVar 0) tNil)) tNil)) (gName 2) (tSeq (tAsg (tOp (rIxT K) (tOp (rIxL K) (tVar 0) (tVar 2)) (tC (.int 1))) (gName 3))
    (tSeq (tAsg (tCB (rListSq K) (tCons (tSl (rSlA K) (tOp (rIxT K) (tOp (rIxL K) (tVar 1) (tVar 2)) (tC (.int 1))) (tPart (tCB (rLenSq K) (tCons (tVar 3) tNil))) tNoPart) tNil)) (gName 4))
    (tIfS (tOr (tTest (tOp (rNeD K) (tSl (rSlA K) (tOp (rIxT K) (tOp (rIxL K) (tVar 1) (tVar 2)) (tC (.int 1))) tNoPart (tPart (tCB (rLenSq K) (tCons (tVar 3) tNil)))) (tVar 3))) (tOr (tTest (tOp (rNeD K) (tVar 4) (tCB (BNS.rSortSetS P w) (tCons (tCB (BNS.rSetS K P w) (tCons (tVar 4) tNil)) tNil)))) (tTest (tOp (rNeD K) (tLc (iList K (tVar 4)) (gName 6) (tTest (tOp (rIn K false) (tVar 6) (tVar 3))) (tVar 6) [6]) (tLst tNil))))) (tRet (tC (.bl false))) tNext))))
    (tRet (tC (.bl true)))))
theorem pure_goeson {K : PySem.W.Frag} {P : Program} {w : World} (vs : List V) (H : Hp) (Q : VK) (E : XK) (h : spGoesOn K vs H Q E) :
    t_goeson K P w { nx := fun _ H' => Q .non H', rt := Q } (start ["first", "more", "k", "own", "rest", "one", "name"] vs) H := by
  obtain ⟨a, b, us, ws, l, m, U, rfl, ha, da, hb, db, G, hu, uw, hl, q⟩ := h
  have gl := G.len
  refine ⟨_, rfl, a, rfl, ⟨_, SqL.of ha⟩, ?_⟩
  refine heads_lc (by show 5 < 7; decide) ha da (by omega) fun D1 H1 hD1 e1 f1 => ?_
  refine ⟨_, rfl, b, rfl, ⟨_, SqL.of (f1.at hb (fun z => z))⟩, ?_⟩
  refine heads_lc (by show 5 < 7; decide) (f1.at hb (fun z => z)) (Dp.sms f1 _ _ db) (by omega) fun D2 H2 hD2 e2 f2 => ?_
  have sh := shaped_strW (l := l.map (·.1)) fun x hx => by
    obtain ⟨e, he, rfl⟩ := List.mem_map.mp hx
    exact G.words e he
  rw [G.names] at e2
  refine ⟨_, _, .lst (SqL.of (f2.at e1 (fun z => z))) (DpAll.strs _), .lst (SqL.of e2) (DpAll.strs _), sh.1, sh.1, _, rfl, ifF (by rw [eqv_refl _ sh.2.2.1]; rfl) ?_⟩
  have f02 := f1.trans f2
  have lu : us.length = l.length := by rw [da.len, List.length_map]
  have lw : ws.length = m.length := by rw [db.len, List.length_map]
  refine ⟨_, rfl, a, _, rfl, .inl (SqL.of (f02.at ha (fun z => z))), us.length, rfl, by omega, by omega, ?_⟩
  refine for_range (lo := 0) (n := us.length) (fun i σ H' => ∃ s2 s3 s4, σ = [some (.ref a), some (.ref b), s2, s3, s4, none, none] ∧ Fr c0 H H') ⟨_, _, _, rfl, f02⟩ ?_ ?_
  · rintro i σ H3 hi ⟨s2, s3, s4, rfl, f3⟩
    obtain ⟨x, hx⟩ := get_lt (l := us) (i := i) hi
    obtain ⟨d1, hd1, Dx⟩ := da.getV hx
    obtain ⟨e, he, rfl⟩ := map_at hd1
    obtain ⟨L, hm, h12, own, rl, uL, dis⟩ := G.get he
    obtain ⟨y, hy, Dy⟩ := db.get (i := i) (d := encFn (e.1, e.2 ++ L)) (by rw [List.getElem?_map, hm]; rfl)
    obtain ⟨t1, p1, rfl, hT1, hP1⟩ := inv_fnE (Dp.sm f3 _ _ Dx)
    obtain ⟨t2, p2, rfl, hT2, hP2⟩ := inv_fnE (Dp.sm f3 _ _ Dy)
    have e0 : (0 + (i : Nat) : Int) = ((i : Nat) : Int) := Int.zero_add _
    have ix1 := atI_nat hx
    have ix2 := atI_nat hy
    rw [← e0] at ix1 ix2
    have ll := ris_len rl uL
    have hP2 : SqT K H3 p2 (e.2.map V.str ++ L.map V.str) := by rw [← List.map_append]; exact hP2
    have lo : (e.2.map V.str).length = e.2.length := List.length_map _
    refine ⟨_, rfl, _, rfl, a, _, _, _, rfl, rfl, SqL.of (f3.at ha (fun z => z)), ix1, t1, _, _, _, rfl, rfl, hT1, rfl, ?_⟩
    refine ⟨_, rfl, _, rfl, b, _, _, _, rfl, rfl, SqL.of (f3.at hb (fun z => z)), ix2, t2, _, _, _, rfl, rfl, hT2, rfl, _, rfl, p1, _, rfl, .inr hP1, _, rfl, ?_⟩
    dsimp only [tNoPart]
    refine slA_run hP2 fun c H4 f4 hc => ?_
    rw [cut_after] at hc
    refine ⟨c, _, rfl, .inr hc, fun R hR => ?_⟩
    have f5 : Fr c0 H4 (upd H4 R (.lst (L.map V.str))) := Fr.new hR
    have hR5 : (upd H4 R (.lst (L.map V.str))) R = some (.lst (L.map V.str)) := upd_same
    generalize (upd H4 R (.lst (L.map V.str))) = H5 at f5 hR5 ⊢
    have f35 := f4.trans f5
    have f05 := f3.trans f35
    refine ⟨_, rfl, _, rfl, b, _, _, _, rfl, rfl, SqL.of (f05.at hb (fun z => z)), ix2, t2, _, _, _, rfl, rfl, f35.sqT hT2, rfl, _, rfl, p1, _, rfl, .inr (f35.sqT hP1), _, rfl, ?_⟩
    dsimp only
    refine slA_run (f35.sqT hP2) fun c2 H6 f6 hc2 => ?_
    rw [cut_first] at hc2
    have so := shaped_strW (l := e.2) own
    have f36 := f35.trans f6
    refine ⟨_, rfl, _, _, .tup hc2 (DpAll.strs _), .tup (f36.sqT hP1) (DpAll.strs _), so.2.1, so.2.1, _, rfl, ifF (by rw [eqv_refl _ so.2.2.2]; rfl) ?_⟩
    have hR6 := f6.at hR5 (fun z => z)
    refine ⟨_, rfl, _, rfl, ?_⟩
    dsimp only [tNil]
    refine sort_set (K := K) (P := P) (w := w) (U := U) hR6 uL (by omega) (by omega) fun D3 H7 f7 hD3 e3 => ?_
    rw [srt_ris rl] at e3
    have sL := shaped_strW (l := L) fun x hx => uw x (uL x hx)
    refine ⟨_, _, .lst (SqL.of (f7.at hR6 (fun z => z))) (DpAll.strs _), .lst (SqL.of e3) (DpAll.strs _), sL.1, sL.1, _, rfl, ifF (by rw [eqv_refl _ sL.2.2.1]; rfl) ?_⟩
    have hR7 := f7.at hR6 (fun z => z)
    have f37 := f36.trans f7
    refine ⟨_, rfl, R, rfl, ⟨_, SqL.of hR7⟩, ?_⟩
    refine filt_lc (tst := fun x => decide (x ∈ e.2)) (by show 6 < 7; decide) (SqL.of hR7) (by omega) (fun x H' Q' f' hq => ?_) fun M H8 hM eM f8 => ?_
    · refine ⟨_, rfl, _, rfl, p1, _, rfl, .inr ((f37.trans f').sqT hP1), rfl, flatV_strs _, _, rfl, ?_⟩
      rw [if_neg (by simp)]
      have := outP_not e.2 x
      have e9 : inV (V.str x) (e.2.map V.str) = decide (x ∈ e.2) := by
        by_cases z : x ∈ e.2
        · rw [inV_strs z, decide_eq_true z]
        · rw [decide_eq_true (by exact z : x ∉ e.2)] at this
          rw [decide_eq_false z]
          cases q : inV (V.str x) (e.2.map V.str) with
          | false => rfl
          | true => rw [q] at this; cases this
      rw [e9]; exact hq
    · have en : L.filter (fun x => decide (x ∈ e.2)) = [] := by
        rw [List.filter_eq_nil_iff]
        intro x hx z
        exact dis x hx (of_decide_eq_true z)
      rw [en] at eM
      refine ⟨one_sz (Nat.zero_le _), fun Z hZ => ?_⟩
      have f9 : Fr c0 H8 (upd H8 Z (.lst [])) := Fr.new hZ
      refine ⟨.list [], .list [], .lst (SqL.of (f9.at eM (fun z => z))) .nil, .lst (SqL.of upd_same) .nil, by decide +kernel, by decide +kernel, _, rfl, ifF (by decide +kernel) ?_⟩
      exact ⟨_, _, _, rfl, (((f3.trans f37).trans f8).trans f9)⟩
  · rintro σ H3 ⟨s2, s3, s4, rfl, f3⟩
    exact q H3 f3
end BN
namespace BN
open PySem L2 PyProof.Rows
/-! ### how wide a program's data is -/
theorem wdsS (l : List Str) : wds (l.map PyData.str) = 0 := by
  induction l with
  | nil => simp [wds]
  | cons a r ih => simp [wds, wd, ih]
mutual
theorem wd_enc : ∀ p : Part, wd p.enc ≤ 5 + p.wid
  | .num n => by simp [Part.enc, wd, wds, Part.wid]
  | .name n => by simp [Part.enc, wd, wds, Part.wid]
  | .add a b => by have := wd_enc a; have := wd_enc b; simp [Part.enc, wd, wds, Part.wid]; omega
  | .less a b => by have := wd_enc a; have := wd_enc b; simp [Part.enc, wd, wds, Part.wid]; omega
  | .ite c a b => by have := wd_enc a; have := wd_enc b; have := wd_enc c; simp [Part.enc, wd, wds, Part.wid]; omega
  | .say a => by have := wd_enc a; simp [Part.enc, wd, wds, Part.wid]; omega
  | .lt x a b => by have := wd_enc a; have := wd_enc b; simp [Part.enc, wd, wds, Part.wid]; omega
  | .fn f ps b r => by have := wd_enc b; have := wd_enc r; have := wdsS ps; simp [Part.enc, wd, wds, Part.wid]; omega
  | .call f as => by have := wd_encs as; have := Parts.encs_len as; simp [Part.enc, wd, wds, Part.wid]; omega
theorem wd_encs : ∀ as : Parts, wds as.encs ≤ 5 + as.wid
  | .nil => by simp [Parts.encs, wds]
  | .cons p r => by have := wd_enc p; have := wd_encs r; simp [Parts.encs, wds, Parts.wid]; omega
end
theorem P_small {ins : List Str} {p : Part} (O : ProgOk ins p) : (encP ins p).depth < 34 ∧ wd (encP ins p) ≤ 1000000 := by
  have h1 := depth_enc p
  have h2 := wd_enc p
  have h3 := O.dep
  have h4 := O.wid
  have h5 := O.il
  have h6 := wdsS ins
  have h7 := depStrs ins
  refine ⟨?_, ?_⟩
  · simp [encP, PyData.depth, PyData.depthAll]; omega
  · simp [encP, wd, wds]; omega
end BN
namespace BN
open PySem L2 PyProof.Rows
/-! ### k11's law -/
theorem calls_le (p : Part) : p.calls ≤ p.size := by
  have key : (∀ p : Part, p.calls ≤ p.size) ∧ ∀ as : Parts, as.calls ≤ as.size := by
    have h : ∀ n : Nat, (∀ p : Part, p.size ≤ n → p.calls ≤ p.size) := fun n => by
      induction n with
      | zero => intro p h; have := size_pos p; omega
      | succ n ih =>
        intro p h
        have lst : ∀ l : List Part, (∀ q ∈ l, q.size ≤ n) → (l.map Part.calls).sum ≤ sizesL l := fun l => by
          induction l with
          | nil => intro _; simp [sizesL]
          | cons a r ihr =>
            intro hq
            have h1 := ih a (hq a (List.mem_cons_self ..))
            have h2 := ihr fun q hq' => hq q (List.mem_cons_of_mem _ hq')
            simp only [List.map_cons, List.sum_cons, sizesL]; omega
        have e1 := calls_eq p
        have e2 := size_inner p
        have e3 : callH p ≤ 1 := by cases p <;> simp [callH]
        have e4 := lst p.inner fun q hq => by
          obtain ⟨i, hi⟩ := List.getElem?_of_mem hq
          have h3 := sizesL_le p.inner (i + 1)
          rw [sizesL_more hi] at h3
          omega
        omega
    refine ⟨fun p => h p.size p (Nat.le_refl _), fun as => ?_⟩
    have := h (Part.call "f" as).size (.call "f" as) (Nat.le_refl _)
    simp only [Part.calls, Part.size] at this
    omega
  exact key.1 p
def t_law11 (K : PySem.W.Frag) : TS :=
  (tSeq (tAsg (tCall (spBegun K) [] C8.E0 (tCons (tVar 0) tNil)) (gName 1))
    (tSeq (tAsg (tCall (spProgram K) [] C8.E0 (tCons (tVar 1) (tCons (tC (.int 4)) tNil))) (gName 2))
    (tSeq (tIfS (tTest (tOp oGt (tOp oAdd (tCall (spSize K 20) [] C8.E0 (tCons (tOp (rIxT K) (tVar 2) (tC (.int 1))) tNil)) (tOp oMul (tC (.int 5)) (tCall (spCalls K 20) [] C8.E0 (tCons (tOp (rIxT K) (tVar 2) (tC (.int 1))) tNil)))) (tC (.int 200)))) (tRet (tC (.bl true))) tNext)
    (tSeq (tAsg (tCall (spHanded K) [] C8.E0 (tCons (tVar 2) tNil)) (gName 3))
    (tSeq (tIfS (tOr (tNot (tB (tCB (rIsi K) (tCons (tVar 3) (tCons (tC (.ty "tuple")) tNil))))) (tOr (tTest (tOp rNe (tCB (rLenSq K) (tCons (tVar 3) tNil)) (tC (.int 2)))) (tNot (tB (tCall (spAlike K 5) [] C8.E0 (tCons (tOp (rIxT K) (tVar 3) (tC (.int 0))) (tCons (tOp (rIxT K) (tVar 2) (tC (.int 0))) tNil))))))) (tRet (tC (.bl false))) tNext)
    (tSeq (tIfS (tOr (tNot (tB (tCall (spLClosed K 20) [] C8.E0 (tCons (tOp (rIxT K) (tVar 3) (tC (.int 1))) (tCons (tCB (rListSq K) (tCons (tOp (rIxT K) (tVar 3) (tC (.int 0))) tNil)) tNil))))) (tNot (tB (tCall (spGoesOn K) [] C8.E0 (tCons (tCall (spLFuns K 20) [] C8.E0 (tCons (tOp (rIxT K) (tVar 2) (tC (.int 1))) tNil)) (tCons (tCall (spLFuns K 20) [] C8.E0 (tCons (tOp (rIxT K) (tVar 3) (tC (.int 1))) tNil)) tNil)))))) (tRet (tC (.bl false))) tNext)
    (tSeq (tFor (iRng1 (tCons (tC (.int 3)) tNil)) (gName 4) (tSeq (tAsg (tCall (spNumbers K) [] C8.E0 (tCons (tVar 1) (tCons (tVar 2) tNil))) (gName 5))
    (tSeq (tAsg (tCall (spLRun K) [] C8.E0 (tCons (tVar 2) (tCons (tVar 5) (tCons (tC (.bl false)) tNil)))) (gTup K 3 (gCons (gName 6) (gCons (gName 7) (gCons (gName 8) gNil)))))
    (tFor (iList K (tLst (tCons (tC (.str "near")) (tCons (tC (.str "called")) tNil)))) (gName 9) (tSeq (tAsg (tCall (spLRun K) [] C8.E0 (tCons (tVar 3) (tCons (tVar 5) (tCons (tOp rEq (tVar 9) (tC (.str "near"))) tNil)))) (gName 10))
    (tSeq (tIfS (tTest (tOp (rNeD K) (tTup (tCons (tOp (rIxT K) (tVar 10) (tC (.int 0))) (tCons (tOp (rIxT K) (tVar 10) (tC (.int 2))) tNil))) (tTup (tCons (tVar 6) (tCons (tVar 8) tNil))))) (tRet (tC (.bl false))) tNext)
    (tIfS (tNot (tB (tCall (spAlike K 5) [] C8.E0 (tCons (tCall (spRun K) [] C8.E0 (tCons (tVar 3) (tCons (tVar 5) (tCons (tVar 9) tNil)))) (tCons (tTup (tCons (tVar 6) (tCons (tCB (rTupSq K) (tCons (tVar 8) tNil)) tNil))) tNil))))) (tRet (tC (.bl false))) tNext)))))))
    (tRet (tC (.bl true))))))))))
theorem pure_law11 {K : PySem.W.Frag} (vs : List V) (H : Hp) (Q : VK) (E : XK) (h : spLaw K vs H Q E) :
    t_law11 K { nx := fun _ H' => Q .non H', rt := Q } (start ["script", "box", "program", "made", "turn", "numbers", "number", "rows", "said", "meaning", "found"] vs) H := by
  obtain ⟨a, ns, rfl, hS, hl, k⟩ := h
  refine ⟨_, rfl, a, ns, rfl, hS, hl, fun bx il H1 f1 B1 => ?_⟩
  refine ⟨_, rfl, bx, il, 4, rfl, B1, by decide, by decide, fun ins pt vp H2 dr hd f2 B2 => ?_⟩
  obtain ⟨t, ti, vp', rfl, hT, hI, dp⟩ := inv_P hd
  have O := dr.okP (by decide)
  have oil := O.il
  have od := O.dep
  have ow := O.wid
  have os := O.sz
  have cl := calls_le pt
  refine ⟨_, rfl, t, _, _, _, rfl, rfl, hT, rfl, vp', pt, rfl, dp, by omega, by omega, fun H3 f3 => ?_⟩
  refine ⟨_, rfl, t, _, _, _, rfl, rfl, f3.sqT hT, rfl, vp', pt, rfl, Dp.fr f3 _ _ (tup_enc pt) dp, by omega, by omega, fun H4 f4 => ?_⟩
  have f24 := f3.trans f4
  refine ⟨_, _, rfl, rfl, .inl ⟨by decide, by decide⟩, _, _, rfl, rfl, _, _, rfl, rfl, _, rfl, ?_⟩
  by_cases hz : pt.size + 5 * pt.calls ≤ 200
  · refine ifF (decide_eq_false (by omega)) ?_
    obtain ⟨U, HO⟩ := dr.hand (by decide) hz
    have OM := HO.progOk
    have hd4 := Dp.fr f24 _ _ (tup_encP ins pt) hd
    have hT4 := f24.sqT hT
    have hI4 := f24.sqT hI
    have B4 := B2.fr0 f24
    have dp4 := Dp.fr f24 _ _ (tup_enc pt) dp
    refine ⟨_, rfl, .ref t, ins, pt, U, rfl, hd4, O, HO.rd, by have := HO.u; omega, HO.fit, HO.size, fun vm H5 f5 dm => ?_⟩
    obtain ⟨tm, tmi, vm', rfl, hTm, hIm, dpm⟩ := inv_P dm
    refine isi_run rfl (tyT hTm) (b := true) (by decide +kernel) ⟨_, rfl, ifF rfl ?_⟩
    refine ⟨_, rfl, tm, _, rfl, .inr hTm, rfl, _, rfl, ifF (by simp) ?_⟩
    have dS := depStrs ins
    have wS := wdsS ins
    refine ⟨_, rfl, tm, _, _, _, rfl, rfl, hTm, rfl, _, rfl, t, _, _, _, rfl, rfl, f5.sqT hT4, rfl, _, _, .tuple (ins.map .str), rfl, .tup hIm (DpAll.strs _), .tup (f5.sqT hI4) (DpAll.strs _), by simp only [PyData.depth]; omega, by simp only [wd, List.length_map]; omega, true, rfl, ifF rfl ?_⟩
    -- closed
    refine ⟨_, rfl, tm, _, _, _, rfl, rfl, hTm, rfl, _, rfl, tm, _, _, _, rfl, rfl, hTm, rfl, tmi, _, rfl, .inr hIm, fun l hl => ?_⟩
    have f6 : Fr c0 H5 (upd H5 l (.lst (ins.map V.str))) := Fr.new hl
    have hcl : clo (hand0 ins pt) ins := hm_clo pt _ ins (wt_scope pt ins (fun _ => none) _ O.ok fun f L e => by cases e)
    have omd := OM.dep
    have omw := OM.wid
    have oms := OM.sz
    refine ⟨vm', l, hand0 ins pt, ins, rfl, Dp.fr f6 _ _ (tup_enc _) dpm, upd_same, hcl, by omega, by omega, by omega, by omega, fun H7 f7 => ⟨_, rfl, ifF rfl ?_⟩⟩
    have f57 := f6.trans f7
    -- goes on
    refine ⟨_, rfl, t, _, _, _, rfl, rfl, (f5.trans f57).sqT hT4, rfl, vp', pt, rfl, Dp.fr (f5.trans f57) _ _ (tup_enc pt) dp4, by omega, by omega, by omega, fun D1 us H8 f8 hD1 e1 d1 => ?_⟩
    have f58 := f57.trans f8
    refine ⟨_, rfl, tm, _, _, _, rfl, rfl, f58.sqT hTm, rfl, vm', hand0 ins pt, rfl, Dp.fr f58 _ _ (tup_enc _) dpm, by omega, by omega, by omega, fun D2 ws H9 f9 hD2 e2 d2 => ?_⟩
    have lf := fnl_len pt
    refine ⟨D1, D2, us, ws, fnl pt, fnl (hand0 ins pt), U, rfl, f9.at e1 (fun z => z), Dp.sms f9 _ _ d1, e2, d2, hm_go U pt ins (fun _ => none) _ O.ok (fw0 U) HO.rd, by have := HO.u; omega, HO.uw, by omega, fun H10 f10 => ⟨_, rfl, ifF rfl ?_⟩⟩
    have f510 := (f58.trans f9).trans f10
    have f410 := f5.trans f510
    have B10 := B4.fr0 f410
    have hd10 := Dp.fr f410 _ _ (tup_encP ins pt) hd4
    have dm10 := Dp.fr f510 _ _ (tup_encP _ _) dm
    have hT10 := f410.sqT hT4
    have hI10 := f410.sqT hI4
    clear f57 f58 f9 f10 f8 f7 f6 e1 e2 d1 d2 hD1 hD2 hl
    refine ⟨3, rfl, by decide, by decide, ?_⟩
    refine for_range (lo := 0) (n := 3) (fun i σ H' => ∃ s5 s6 s7 s8 s9 s10 s11, σ = [some (.ref a), some (.ref bx), some (.ref t), some (.ref tm), s5, s6, s7, s8, s9, s10, s11] ∧ Fr (cB bx il) H10 H' ∧ Box H' bx il) ⟨_, _, _, _, _, _, _, rfl, Fr.refl _, B10⟩ ?_ ?_
    · rintro i σ H11 hi ⟨s5, s6, s7, s8, s9, s10, s11, rfl, f11, B11⟩
      refine ⟨_, rfl, _, rfl, bx, il, t, ti, vp', ins, rfl, B11, f11.sqT hT10, f11.sqT hI10, by omega, fun tn nums' H12 hnl hnr hN f12 B12 => ?_⟩
      have R := dr.run (by decide) hnl hnr
      have RM := HO.runOk hnl hnr
      have f1012 := f11.trans f12
      have hd12 := Dp.fr f1012 _ _ (tup_encP ins pt) hd10
      have dm12 := Dp.fr f1012 _ _ (tup_encP _ _) dm10
      have hN12 : SqT K H12 tn (nums'.map V.int) := SqT.of hN
      have ml := mean_len (near := false) (ns := nums') dr (by decide)
      refine ⟨_, rfl, _, rfl, .ref t, tn, false, ins, pt, nums', rfl, hd12, hN12, O.nd, hnl, by omega, R.w, fun t7 r1 r2 H13 f13 _ _ hT13 TA13 => ?_⟩
      refine ⟨t7, _, rfl, hT13, rfl, _, _, rfl, _, _, rfl, _, _, rfl, rfl, ?_⟩
      refine ⟨one_sz (by show 2 ≤ 1000; decide), fun lm hlm => ⟨lm, rfl, ⟨_, SqL.of upd_same⟩, ?_⟩⟩
      have f14 : Fr c0 H13 (upd H13 lm (.lst [.str "near", .str "called"])) := Fr.new hlm
      have hL14 : (upd H13 lm (.lst [.str "near", .str "called"])) lm = some (.lst [.str "near", .str "called"]) := upd_same
      have TA14 := TA13.fr f14
      generalize (upd H13 lm (.lst [.str "near", .str "called"])) = H14 at f14 hL14 TA14 ⊢
      have f1214 := f13.trans f14
      refine for_list (K := K) (a := lm) (xs := [.str "near", .str "called"]) (fun i σ H' => ∃ s5 s10 s11, σ = [some (.ref a), some (.ref bx), some (.ref t), some (.ref tm), s5, some (.ref tn), some (.int (mean false ins pt nums').v), some (.ref r1), some (.ref r2), s10, s11] ∧ Fr c0 H14 H') ⟨_, _, _, rfl, Fr.refl _⟩
        (fun i σ H' _ ⟨_, _, _, _, f'⟩ => SqL.of (f'.at hL14 (fun z => z))) ?_ ?_
      · rintro i' x σ H15 hx ⟨s5, s10, s11, rfl, f15⟩
        obtain ⟨me, rfl, hme⟩ : ∃ me : Str, x = .str me ∧ (me = "near" ∨ me = "called") := by
          match i', hx with
          | 0, hx => exact ⟨"near", (Option.some.inj hx).symm, .inl rfl⟩
          | 1, hx => exact ⟨"called", (Option.some.inj hx).symm, .inr rfl⟩
        have f1215 := f1214.trans f15
        refine ⟨_, rfl, _, rfl, _, rfl, rfl, .ref tm, tn, _, ins, hand0 ins pt, nums', rfl, Dp.sm f1215 _ _ dm12, f1215.sqT hN12, OM.nd, RM.len, by omega, RM.w, fun t8 q1 q2 H16 f16 _ _ hT16 TA16 => ?_⟩
        rw [str_eqB] at hT16 TA16
        have S := HO.sim (decide (me = "near")) nums'
        rw [S.v] at hT16
        rw [S.sd] at TA16
        refine ⟨_, rfl, t8, _, _, _, rfl, rfl, hT16, rfl, _, rfl, t8, _, _, _, rfl, rfl, hT16, rfl, one_sz (by show 2 ≤ 1000; decide), fun w1 hw1 => ?_⟩
        have g1 : Fr c0 H16 (upd H16 w1 (.tup [.int (mean false ins pt nums').v, .ref q2])) := Fr.new hw1
        refine ⟨_, rfl, _, rfl, one_sz (by show 2 ≤ 1000; decide), fun w2 hw2 => ?_⟩
        have g2 : Fr c0 (upd H16 w1 (.tup [.int (mean false ins pt nums').v, .ref q2])) (upd (upd H16 w1 (.tup [.int (mean false ins pt nums').v, .ref q2])) w2 (.tup [.int (mean false ins pt nums').v, .ref r2])) := Fr.new hw2
        have g := g1.trans g2
        have TA14' := TA14.fr ((f15.trans f16).trans g)
        have TA16' := TA16.fr g
        have sv := shaped_vs (mean false ins pt nums').v (mean false ins pt nums').said
        have cv := SeqAt.canLay_of_shaped sv
        refine ⟨.tuple [.int (mean false ins pt nums').v, .list ((mean false ins pt nums').said.map .int)], .tuple [.int (mean false ins pt nums').v, .list ((mean false ins pt nums').said.map .int)],
          .tup (SqT.of (g2.tup upd_same)) (.cons (.int _) (.cons (.lst (SqL.of TA16'.sd) (DpAll.ints _)) .nil)), .tup (SqT.of upd_same) (.cons (.int _) (.cons (.lst (SqL.of TA14'.sd) (DpAll.ints _)) .nil)), sv, sv, _, rfl, ifF (by rw [eqv_refl _ cv]; rfl) ?_⟩
        generalize (upd (upd H16 w1 (.tup [.int (mean false ins pt nums').v, .ref q2])) w2 (.tup [.int (mean false ins pt nums').v, .ref r2])) = H17 at g TA14' TA16' ⊢
        have f1217 := (f1215.trans f16).trans g
        have f1417 := (f15.trans f16).trans g
        refine ⟨_, rfl, _, rfl, _, rfl, .ref tm, tn, me, ins, hand0 ins pt, nums', rfl, Dp.sm f1217 _ _ dm12, f1217.sqT hN12, RM, hme, fun v H19 f19 dv => ?_⟩
        rw [S.v, S.sd] at dv
        have TA19 := TA14.fr (f1417.trans f19)
        refine ⟨_, rfl, _, rfl, r2, _, rfl, .inl ⟨SqL.of TA19.sd, fun u hu => ⟨one_sz (by show 2 ≤ 1000; decide), fun t3 ht3 => ?_⟩⟩⟩
        have f20 : Fr c0 H19 (upd H19 u (.tup ((mean false ins pt nums').said.map V.int))) := Fr.new hu
        have f21 : Fr c0 (upd H19 u (.tup ((mean false ins pt nums').said.map V.int))) (upd (upd H19 u (.tup ((mean false ins pt nums').said.map V.int))) t3 (.tup [.int (mean false ins pt nums').v, .ref u])) := Fr.new ht3
        have is := ints_small (mean false ins pt nums').said
        refine ⟨v, .ref t3, _, rfl, Dp.sm (f20.trans f21) _ _ dv, .tup (SqT.of upd_same) (.cons (.int _) (.cons (.tup (SqT.of (f21.tup upd_same)) (DpAll.ints _)) .nil)), by simp only [PyData.depth, PyData.depthAll]; omega, by simp only [wd, wds, List.length_map, List.length_cons, List.length_nil]; omega, true, rfl, iteF ?_⟩
        exact ⟨_, _, _, rfl, (f1417.trans f19).trans (f20.trans f21)⟩
      · rintro σ H15 ⟨s5, s10, s11, rfl, f15⟩
        exact ⟨_, _, _, _, _, _, _, rfl, f1012.trans (Fr.of0 (f1214.trans f15)), B12.fr0 (f1214.trans f15)⟩
    · rintro σ H11 ⟨s5, s6, s7, s8, s9, s10, s11, rfl, f11, B11⟩
      exact k H11
  · exact ifT (decide_eq_true (by omega)) (k H4)
end BN
namespace BN
open PySem L2 PyProof.Rows
structure Txt (K : PySem.W.Frag) (w : World) (mg : Str → Option Value) (dP : Addr) (es : Array DictEntry) (n0 : Nat) (cChk cRms cHan : Addr) : Prop where
  b_range : mg "range" = none
  b_len : mg "len" = none
  b_int : mg "int" = none
  b_bool : mg "bool" = none
  b_str : mg "str" = none
  b_list : mg "list" = none
  b_tuple : mg "tuple" = none
  b_sum : mg "sum" = none
  b_isinstance : mg "isinstance" = none
  b_all : mg "all" = none
  b_set : mg "set" = none
  b_dict : mg "dict" = none
  b_zip : mg "zip" = none
  b_sorted : mg "sorted" = none
  b_enumerate : mg "enumerate" = none
  b_reversed : mg "reversed" = none
  b_min : mg "min" = none
  g_SMALL : ∃ u, mg "SMALL" = some u ∧ RelV (.str "abcdefghijklmnopqrstuvwxyz") u
  g_MOST_SIGNS : ∃ u, mg "MOST_SIGNS" = some u ∧ RelV (.int 4) u
  g_MOST_NUMBER : ∃ u, mg "MOST_NUMBER" = some u ∧ RelV (.int 99) u
  g_MOST_INPUTS : ∃ u, mg "MOST_INPUTS" = some u ∧ RelV (.int 3) u
  g_MOST_PARAMS : ∃ u, mg "MOST_PARAMS" = some u ∧ RelV (.int 12) u
  g_MOST_PARTS : ∃ u, mg "MOST_PARTS" = some u ∧ RelV (.int 200) u
  g_NEAR : ∃ u, mg "NEAR" = some u ∧ RelV (.str "near") u
  g_CALLED : ∃ u, mg "CALLED" = some u ∧ RelV (.str "called") u
  g_WHEEL : ∃ u, mg "WHEEL" = some u ∧ RelV (.int 100) u
  g_PARTS : ∃ u, mg "PARTS" = some u ∧ RelV (.ref dP) u
  pt : PTab K w dP es n0
  kd : KDict K w dP es n0
  chk : ChkC K cChk
  rms : RmsC K cRms
  han : HanC K cHan
  m_Hander : mg "Hander" = some (.ref cHan)
abbrev TxtX {K : PySem.W.Frag} {h : Heap} (_ : K.In h) (w : World) (mg : Str → Option Value) (dP : Addr) (es : Array DictEntry) (n0 : Nat) (cChk cRms cHan : Addr) : Prop := Txt K w mg dP es n0 cChk cRms cHan
abbrev ChkCX {K : PySem.W.Frag} {h : Heap} (_ : K.In h) (C : Addr) : Prop := ChkC K C
abbrev RmsCX {K : PySem.W.Frag} {h : Heap} (_ : K.In h) (C : Addr) : Prop := RmsC K C
abbrev HanCX {K : PySem.W.Frag} {h : Heap} (_ : K.In h) (C : Addr) : Prop := HanC K C
def top (i : Nat) : Stmt := PySem.Challenge.pw_bindnear_k11_whole_names_handed_on.main.body.getD i (.Pass ⟨0, 0, 0, 0⟩)
abbrev s__law_begun : Stmt := top 32
theorem sc__law_begun : FnScope ["_law_script", "_law_stirred", "_law_cell"] ["_law_script"] (defScope s__law_begun) := ⟨rfl, rfl, rfl, by decide +kernel, rfl, by decide +kernel, by decide +kernel⟩
abbrev s__law_take : Stmt := top 33
theorem sc__law_take : FnScope ["_law_box", "_law_many", "_law_number"] ["_law_box", "_law_many"] (defScope s__law_take) := ⟨rfl, rfl, rfl, by decide +kernel, rfl, by decide +kernel, by decide +kernel⟩
abbrev s__law_leaf : Stmt := top 35
theorem sc__law_leaf : FnScope ["_law_box", "_law_names"] ["_law_box", "_law_names"] (defScope s__law_leaf) := ⟨rfl, rfl, rfl, by decide +kernel, rfl, by decide +kernel, by decide +kernel⟩
abbrev s__law_fun : Stmt := top 36
theorem sc__law_fun : FnScope ["_law_box", "_law_deep", "_law_names", "_law_funs_here", "_law_words", "_law_name", "_law_params", "_law_body", "_law_known", "_law_rest", "_law_word", "_law_call_here", "_law_fun_here", "_law_param"] ["_law_box", "_law_deep", "_law_names", "_law_funs_here", "_law_words"] (defScope s__law_fun) := ⟨rfl, rfl, rfl, by decide +kernel, rfl, by decide +kernel, by decide +kernel⟩
abbrev s__law_part : Stmt := top 37
theorem sc__law_part : FnScope ["_law_box", "_law_deep", "_law_names", "_law_funs_here", "_law_words", "_law_way", "_law_word", "_law_first", "_law_name", "_law_many", "_law_some", "_law_k"] ["_law_box", "_law_deep", "_law_names", "_law_funs_here", "_law_words"] (defScope s__law_part) := ⟨rfl, rfl, rfl, by decide +kernel, rfl, by decide +kernel, by decide +kernel⟩
abbrev s__law_inner : Stmt := top 38
theorem sc__law_inner : FnScope ["_law_part_here", "_law_word"] ["_law_part_here"] (defScope s__law_inner) := ⟨rfl, rfl, rfl, by decide +kernel, rfl, by decide +kernel, by decide +kernel⟩
abbrev s__law_size : Stmt := top 39
theorem sc__law_size : FnScope ["_law_part_here", "_law_one"] ["_law_part_here"] (defScope s__law_size) := ⟨rfl, rfl, rfl, by decide +kernel, rfl, by decide +kernel, by decide +kernel⟩
abbrev s__law_program : Stmt := top 40
theorem sc__law_program : FnScope ["_law_box", "_law_deep", "_law_some", "_law_words", "_law_inputs", "_law_part_here"] ["_law_box", "_law_deep"] (defScope s__law_program) := ⟨rfl, rfl, rfl, by decide +kernel, rfl, by decide +kernel, by decide +kernel⟩
abbrev s__law_numbers : Stmt := top 41
theorem sc__law_numbers : FnScope ["_law_box", "_law_program_here", "_law_name"] ["_law_box", "_law_program_here"] (defScope s__law_numbers) := ⟨rfl, rfl, rfl, by decide +kernel, rfl, by decide +kernel, by decide +kernel⟩
abbrev s__law_alike : Stmt := top 34
theorem sc__law_alike : FnScope ["_law_found", "_law_due", "_law_k"] ["_law_found", "_law_due"] (defScope s__law_alike) := ⟨rfl, rfl, rfl, by decide +kernel, rfl, by decide +kernel, by decide +kernel⟩
abbrev s_is_word : Stmt := top 16
theorem sc_is_word : FnScope ["word", "sign"] ["word"] (defScope s_is_word) := ⟨rfl, rfl, rfl, by decide +kernel, rfl, by decide +kernel, by decide +kernel⟩
abbrev s_are_words : Stmt := top 17
theorem sc_are_words : FnScope ["words", "most", "word"] ["words", "most"] (defScope s_are_words) := ⟨rfl, rfl, rfl, by decide +kernel, rfl, by decide +kernel, by decide +kernel⟩
abbrev s_inner_of : Stmt := top 18
theorem sc_inner_of : FnScope ["part", "word"] ["part"] (defScope s_inner_of) := ⟨rfl, rfl, rfl, by decide +kernel, rfl, by decide +kernel, by decide +kernel⟩
abbrev s_Check_must : Stmt := inClass (top 20) 1
theorem sc_Check_must : FnScope ["self", "good", "place"] ["self", "good", "place"] (defScope s_Check_must) := ⟨rfl, rfl, rfl, by decide +kernel, rfl, by decide +kernel, by decide +kernel⟩
abbrev s_Check_look : Stmt := inClass (top 20) 2
theorem sc_Check_look : FnScope ["self", "part", "names", "funs", "place", "word", "known", "one"] ["self", "part", "names", "funs"] (defScope s_Check_look) := ⟨rfl, rfl, rfl, by decide +kernel, rfl, by decide +kernel, by decide +kernel⟩
abbrev s_check_program : Stmt := top 21
theorem sc_check_program : FnScope ["program", "inputs", "part", "check"] ["program"] (defScope s_check_program) := ⟨rfl, rfl, rfl, by decide +kernel, rfl, by decide +kernel, by decide +kernel⟩
abbrev s_check_run : Stmt := top 22
theorem sc_check_run : FnScope ["program", "numbers", "meaning", "number"] ["program", "numbers", "meaning"] (defScope s_check_run) := ⟨rfl, rfl, rfl, by decide +kernel, rfl, by decide +kernel, by decide +kernel⟩
abbrev s_Rooms_read : Stmt := inClass (top 28) 1
theorem sc_Rooms_read : FnScope ["self", "name", "pile", "passed", "number"] ["self", "name", "pile"] (defScope s_Rooms_read) := ⟨rfl, rfl, rfl, by decide +kernel, rfl, by decide +kernel, by decide +kernel⟩
abbrev s_Rooms_work : Stmt := inClass (top 28) 3
theorem sc_Rooms_work : FnScope ["self", "part", "pile", "funs", "word", "known", "first", "other"] ["self", "part", "pile", "funs"] (defScope s_Rooms_work) := ⟨rfl, rfl, rfl, by decide +kernel, rfl, by decide +kernel, by decide +kernel⟩
abbrev s_Rooms_call : Stmt := inClass (top 28) 2
theorem sc_Rooms_call : FnScope ["self", "part", "pile", "funs", "numbers", "params", "body", "home", "known", "room", "one"] ["self", "part", "pile", "funs"] (defScope s_Rooms_call) := ⟨rfl, rfl, rfl, by decide +kernel, rfl, by decide +kernel, by decide +kernel⟩
abbrev s_gone : Stmt := top 29
theorem sc_gone : FnScope ["program", "numbers", "meaning", "rooms", "room"] ["program", "numbers", "meaning"] (defScope s_gone) := ⟨rfl, rfl, rfl, by decide +kernel, rfl, by decide +kernel, by decide +kernel⟩
abbrev s_run : Stmt := top 30
theorem sc_run : FnScope ["program", "numbers", "meaning", "rooms", "number"] ["program", "numbers", "meaning"] (defScope s_run) := ⟨rfl, rfl, rfl, by decide +kernel, rfl, by decide +kernel, by decide +kernel⟩
abbrev s__law_room : Stmt := top 42
theorem sc__law_room : FnScope ["_law_names", "_law_numbers_here", "_law_k"] ["_law_names", "_law_numbers_here"] (defScope s__law_room) := ⟨rfl, rfl, rfl, by decide +kernel, rfl, by decide +kernel, by decide +kernel⟩
abbrev s__law_read : Stmt := top 43
theorem sc__law_read : FnScope ["_law_name", "_law_pile", "_law_told", "_law_some", "_law_k"] ["_law_name", "_law_pile", "_law_told"] (defScope s__law_read) := ⟨rfl, rfl, rfl, by decide +kernel, rfl, by decide +kernel, by decide +kernel⟩
abbrev s__law_work : Stmt := top 45
theorem sc__law_work : FnScope ["_law_part_here", "_law_pile", "_law_funs_here", "_law_told", "_law_near", "_law_word", "_law_known", "_law_first", "_law_other"] ["_law_part_here", "_law_pile", "_law_funs_here", "_law_told", "_law_near"] (defScope s__law_work) := ⟨rfl, rfl, rfl, by decide +kernel, rfl, by decide +kernel, by decide +kernel⟩
abbrev s__law_call : Stmt := top 44
theorem sc__law_call : FnScope ["_law_part_here", "_law_pile", "_law_funs_here", "_law_told", "_law_near", "_law_numbers_here", "_law_params", "_law_body", "_law_home", "_law_known", "_law_one"] ["_law_part_here", "_law_pile", "_law_funs_here", "_law_told", "_law_near"] (defScope s__law_call) := ⟨rfl, rfl, rfl, by decide +kernel, rfl, by decide +kernel, by decide +kernel⟩
abbrev s__law_run : Stmt := top 46
theorem sc__law_run : FnScope ["_law_program_here", "_law_numbers_here", "_law_near", "_law_told", "_law_number"] ["_law_program_here", "_law_numbers_here", "_law_near"] (defScope s__law_run) := ⟨rfl, rfl, rfl, by decide +kernel, rfl, by decide +kernel, by decide +kernel⟩
abbrev s_size_of : Stmt := top 19
theorem sc_size_of : FnScope ["part", "one"] ["part"] (defScope s_size_of) := ⟨rfl, rfl, rfl, by decide +kernel, rfl, by decide +kernel, by decide +kernel⟩
abbrev s_Hander_wants : Stmt := inClass (top 24) 0
theorem sc_Hander_wants : FnScope ["self", "part", "funs", "word", "inner", "found", "one", "name"] ["self", "part", "funs"] (defScope s_Hander_wants) := ⟨rfl, rfl, rfl, by decide +kernel, rfl, by decide +kernel, by decide +kernel⟩
abbrev s_Hander_known : Stmt := inClass (top 24) 1
theorem sc_Hander_known : FnScope ["self", "part", "funs", "found", "name"] ["self", "part", "funs"] (defScope s_Hander_known) := ⟨rfl, rfl, rfl, by decide +kernel, rfl, by decide +kernel, by decide +kernel⟩
abbrev s_Hander_made : Stmt := inClass (top 24) 2
theorem sc_Hander_made : FnScope ["self", "part", "funs", "word", "known", "params", "more", "name", "one"] ["self", "part", "funs"] (defScope s_Hander_made) := ⟨rfl, rfl, rfl, by decide +kernel, rfl, by decide +kernel, by decide +kernel⟩
abbrev s_handed : Stmt := top 25
theorem sc_handed : FnScope ["program", "found"] ["program"] (defScope s_handed) := ⟨rfl, rfl, rfl, by decide +kernel, rfl, by decide +kernel, by decide +kernel⟩
abbrev s__law_closed : Stmt := top 47
theorem sc__law_closed : FnScope ["_law_part_here", "_law_names", "_law_word", "_law_one"] ["_law_part_here", "_law_names"] (defScope s__law_closed) := ⟨rfl, rfl, rfl, by decide +kernel, rfl, by decide +kernel, by decide +kernel⟩
abbrev s__law_funs : Stmt := top 48
theorem sc__law_funs : FnScope ["_law_part_here", "_law_found", "_law_one"] ["_law_part_here"] (defScope s__law_funs) := ⟨rfl, rfl, rfl, by decide +kernel, rfl, by decide +kernel, by decide +kernel⟩
abbrev s__law_calls : Stmt := top 50
theorem sc__law_calls : FnScope ["_law_part_here", "_law_one"] ["_law_part_here"] (defScope s__law_calls) := ⟨rfl, rfl, rfl, by decide +kernel, rfl, by decide +kernel, by decide +kernel⟩
abbrev s__law_goes_on : Stmt := top 49
theorem sc__law_goes_on : FnScope ["_law_first", "_law_more", "_law_k", "_law_own", "_law_rest", "_law_one", "_law_name"] ["_law_first", "_law_more"] (defScope s__law_goes_on) := ⟨rfl, rfl, rfl, by decide +kernel, rfl, by decide +kernel, by decide +kernel⟩
abbrev s_law : Stmt := top 51
theorem sc_law : FnScope ["_law_script", "_law_box", "_law_program_here", "_law_made", "_law_turn", "_law_numbers_here", "_law_number", "_law_rows", "_law_said", "_law_meaning", "_law_found"] ["_law_script"] (defScope s_law) := ⟨rfl, rfl, rfl, by decide +kernel, rfl, by decide +kernel, by decide +kernel⟩
abbrev s_Check___init__ : Stmt := inClass (top 20) 0
theorem sc_Check___init__ : FnScope ["self"] ["self"] (defScope s_Check___init__) := ⟨rfl, rfl, rfl, by decide +kernel, rfl, by decide +kernel, by decide +kernel⟩
abbrev s_Rooms___init__ : Stmt := inClass (top 28) 0
theorem sc_Rooms___init__ : FnScope ["self", "meaning"] ["self", "meaning"] (defScope s_Rooms___init__) := ⟨rfl, rfl, rfl, by decide +kernel, rfl, by decide +kernel, by decide +kernel⟩
/-! ### a def, a method, a class as the top has written them -/
def DefOk (K : PySem.W.Frag) (mg : Str → Option Value) (x : Str) (st : Stmt) (ps : List Str) : Prop := ∃ (f : Addr) (fd : FuncData), Fun K x x st f fd ∧ mg x = some (.ref f) ∧ PySem.W.keepIn K (.ref f) = true ∧ Binds K fd ps []
def MetOk (K : PySem.W.Frag) (C : Addr) (m qual : Str) (st : Stmt) (ps : List Str) : Prop := ∃ (f : Addr) (fd : FuncData), Fun K m qual st f fd ∧ Meth K C m f ∧ Binds K fd ps []
def MakOk (K : PySem.W.Frag) (mg : Str → Option Value) (C : Addr) (x qual : Str) (st : Stmt) (ps : List Str) : Prop := ∃ (f : Addr) (fd : FuncData), Fun K "__init__" qual st f fd ∧ Mk K C f ∧ mg x = some (.ref C) ∧ Binds K fd ps []
section
variable {P : Program} {w : World} {K : PySem.W.Frag} {mg : Str → Option Value} {base : Heap} {k : Nat} {x m qual : Str} {C : Addr} {st : Stmt} {ps : List Str} {sp : Sp}
theorem DefOk.cal (D : DefOk K mg x st ps) (h : ∀ f fd, Fun K x x st f fd → FnOk P w K mg base C8.CX0 k f fd ps sp) : C8.Cal P w K mg base k x sp [] := by
  obtain ⟨f, fd, F, hm, kp, b⟩ := D
  exact ⟨f, fd, ps, [], h f fd F, hm, kp, b, .nil⟩
theorem MetOk.cal (D : MetOk K C m qual st ps) (cl : Cls K C) (h : ∀ f fd, Fun K m qual st f fd → FnOk P w K mg base C8.CX0 k f fd ps sp) : C8.Met P w K mg base k C m sp [] := by
  obtain ⟨f, fd, F, me, b⟩ := D
  exact ⟨f, fd, ps, [], cl, me, h f fd F, b, .nil⟩
theorem MakOk.cal (D : MakOk K mg C x qual st ps) (h : ∀ f fd, Fun K "__init__" qual st f fd → FnOk P w K mg base C8.CX0 k f fd ps sp) : C8.Mak P w K mg base k x C sp [] := by
  obtain ⟨f, fd, F, M, hm, b⟩ := D
  exact ⟨f, fd, ps, [], M, h f fd F, hm, b, .nil⟩
abbrev BindOk (x : Str) (st : Stmt) (ps : List Str) : Prop := ∀ (kV doc pm : Value) (an : Option Addr) (cdv ct : Value) (us : List Value), us.length = ps.length → bindArgs (PySem.W.fnOf x x (defArgs st) (defBody st) (defScope st) .none kV doc pm an cdv ct) ⟨us, []⟩ = pure (ps.zip us)
theorem DefOk.of {h : Heap} {f : Addr} {oc : Value} {od an : Option Addr} {osl : Array (Option Value)} {kV doc pm cdv ct : Value} (X : K.In h) (G : h.Ns mainGlobals mg) (a : PySem.W.nsIn K mainGlobals x = some (some (.ref f)))
    (l : K.lookup f = some ⟨oc, od, .func (PySem.W.fnOf x x (defArgs st) (defBody st) (defScope st) .none kV doc pm an cdv ct), osl⟩) (c : PySem.W.codeIn K cdv x = true) (kp : PySem.W.keepIn K (.ref f) = true)
    (b : ∀ (kV doc pm : Value) (an : Option Addr) (cdv ct : Value) (us : List Value), us.length = ps.length → bindArgs (PySem.W.fnOf x x (defArgs st) (defBody st) (defScope st) .none kV doc pm an cdv ct) ⟨us, []⟩ = pure (ps.zip us)) : DefOk K mg x st ps :=
  ⟨f, _, fun_mk l c kp, PySem.W.mg_of X G a, kp, (fun_mk l c kp).binds b⟩
theorem MetOk.of {f : Addr} {oc : Value} {od an : Option Addr} {osl : Array (Option Value)} {kV doc pm cdv ct : Value} (a : PySem.W.findIn K (.ref C) m = some (some (.ref f))) (i : PySem.W.isFn K (.ref f) = true)
    (l : K.lookup f = some ⟨oc, od, .func (PySem.W.fnOf m qual (defArgs st) (defBody st) (defScope st) .none kV doc pm an cdv ct), osl⟩) (c : PySem.W.codeIn K cdv qual = true) (kp : PySem.W.keepIn K (.ref f) = true)
    (b : ∀ (kV doc pm : Value) (an : Option Addr) (cdv ct : Value) (us : List Value), us.length = ps.length → bindArgs (PySem.W.fnOf m qual (defArgs st) (defBody st) (defScope st) .none kV doc pm an cdv ct) ⟨us, []⟩ = pure (ps.zip us)) : MetOk K C m qual st ps :=
  ⟨f, _, fun_mk l c kp, ⟨a, i, kp⟩, (fun_mk l c kp).binds b⟩
theorem MakOk.of {f : Addr} {oc : Value} {od an : Option Addr} {osl : Array (Option Value)} {kV doc pm cdv ct : Value} (hm : mg x = some (.ref C)) (mk : PySem.W.makesIn K C = true) (kc : PySem.W.keepIn K (.ref C) = true) (a : PySem.W.findIn K (.ref C) "__init__" = some (some (.ref f))) (i : PySem.W.isFn K (.ref f) = true)
    (l : K.lookup f = some ⟨oc, od, .func (PySem.W.fnOf "__init__" qual (defArgs st) (defBody st) (defScope st) .none kV doc pm an cdv ct), osl⟩) (c : PySem.W.codeIn K cdv qual = true) (kp : PySem.W.keepIn K (.ref f) = true)
    (b : ∀ (kV doc pm : Value) (an : Option Addr) (cdv ct : Value) (us : List Value), us.length = ps.length → bindArgs (PySem.W.fnOf "__init__" qual (defArgs st) (defBody st) (defScope st) .none kV doc pm an cdv ct) ⟨us, []⟩ = pure (ps.zip us)) : MakOk K mg C x qual st ps :=
  ⟨f, _, fun_mk l c kp, ⟨mk, a, i, kc⟩, hm, (fun_mk l c kp).binds b⟩
theorem law_of {h : Heap} {fa f : Addr} {oc : Value} {od an : Option Addr} {osl : Array (Option Value)} {kV doc pm cdv ct : Value} (X : K.In h) (G : h.Ns mainGlobals mg) (hfa : mg "law" = some (.ref fa)) (a : PySem.W.nsIn K mainGlobals "law" = some (some (.ref f)))
    (l : K.lookup f = some ⟨oc, od, .func (PySem.W.fnOf "law" "law" (defArgs st) (defBody st) (defScope st) .none kV doc pm an cdv ct), osl⟩) (c : PySem.W.codeIn K cdv "law" = true) (kp : PySem.W.keepIn K (.ref f) = true)
    (b : ∀ (s : Shared) (v : Value), BindsTo s (PySem.W.fnOf "law" "law" (defArgs st) (defBody st) (defScope st) .none kV doc pm an cdv ct) ⟨[v], []⟩ [("_law_script", v)]) : ∃ fd : FuncData, Fun K "law" "law" st fa fd ∧ ∀ (s : Shared) (v : Value), BindsTo s fd ⟨[v], []⟩ [("_law_script", v)] := by
  have e := hfa.symm.trans (PySem.W.mg_of X G a)
  cases e
  exact ⟨_, fun_mk l c kp, b⟩
abbrev LawX {K : PySem.W.Frag} {h : Heap} (_ : K.In h) (st : Stmt) (fa : Addr) (fd : FuncData) : Prop := Fun K "law" "law" st fa fd
abbrev DefOkX {K : PySem.W.Frag} {h : Heap} (_ : K.In h) (mg : Str → Option Value) (x : Str) (st : Stmt) (ps : List Str) : Prop := DefOk K mg x st ps
abbrev MetOkX {K : PySem.W.Frag} {h : Heap} (_ : K.In h) (C : Addr) (m qual : Str) (st : Stmt) (ps : List Str) : Prop := MetOk K C m qual st ps
abbrev MakOkX {K : PySem.W.Frag} {h : Heap} (_ : K.In h) (mg : Str → Option Value) (C : Addr) (x qual : Str) (st : Stmt) (ps : List Str) : Prop := MakOk K mg C x qual st ps
abbrev PTabX {K : PySem.W.Frag} {h : Heap} (_ : K.In h) (w : World) (dP : Addr) (es : Array DictEntry) (n : Nat) : Prop := PTab K w dP es n
theorem glob_of {h : Heap} {u : Value} {v : V} (X : K.In h) (G : h.Ns mainGlobals mg) (a : PySem.W.nsIn K mainGlobals x = some (some u)) (r : RelV v u) : ∃ u, mg x = some u ∧ RelV v u := ⟨u, PySem.W.mg_of X G a, r⟩
theorem ptab_of {h : Heap} {dP : Addr} {es : Array DictEntry} {n : Nat} {u1 u2 u3 u4 u5 u6 u7 u8 u9 : Value} (X : K.In h) (G : h.Ns mainGlobals mg) (a : PySem.W.nsIn K mainGlobals "PARTS" = some (some (.ref dP))) (D : K.lookup dP = some ⟨.type "dict", none, .dict es n, #[]⟩)
    (kl : PySem.W.KeysLit w.params es.toList) (low : (dP == sysModules) = false) (k1 : PySem.W.nsIn K dP "num" = some (some u1)) (k2 : PySem.W.nsIn K dP "name" = some (some u2)) (k3 : PySem.W.nsIn K dP "add" = some (some u3)) (k4 : PySem.W.nsIn K dP "less" = some (some u4))
    (k5 : PySem.W.nsIn K dP "say" = some (some u5)) (k6 : PySem.W.nsIn K dP "if" = some (some u6)) (k7 : PySem.W.nsIn K dP "let" = some (some u7)) (k8 : PySem.W.nsIn K dP "fun" = some (some u8)) (k9 : PySem.W.nsIn K dP "call" = some (some u9))
    (r1 : RelV (.int 2) u1) (r2 : RelV (.int 2) u2) (r3 : RelV (.int 3) u3) (r4 : RelV (.int 3) u4) (r5 : RelV (.int 2) u5) (r6 : RelV (.int 4) u6) (r7 : RelV (.int 4) u7) (r8 : RelV (.int 5) u8) (r9 : RelV (.int 3) u9) :
    ∃ (dP : Addr) (es : Array DictEntry) (n : Nat), PTab K w dP es n ∧ ∃ u, mg "PARTS" = some u ∧ RelV (.ref dP) u :=
  ⟨dP, es, n, ⟨⟨D, kl, low⟩, fun p => match p with
    | .num _ => ⟨u1, k1, r1⟩ | .name _ => ⟨u2, k2, r2⟩ | .add _ _ => ⟨u3, k3, r3⟩ | .less _ _ => ⟨u4, k4, r4⟩ | .say _ => ⟨u5, k5, r5⟩ | .ite _ _ _ => ⟨u6, k6, r6⟩ | .lt _ _ _ => ⟨u7, k7, r7⟩ | .fn _ _ _ _ => ⟨u8, k8, r8⟩ | .call _ _ => ⟨u9, k9, r9⟩⟩, _, PySem.W.mg_of X G a, rfl⟩
end

theorem FnOk.none {P : Program} {w : World} {K : PySem.W.Frag} {mg : Str → Option Value} {base : Heap} {k : Nat} {f : Addr} {fd : FuncData} {ps : List Str} {sp : Sp} (no : ∀ vs H Q E, ¬ sp vs H Q E) : FnOk P w K mg base C8.CX0 k f fd ps sp :=
  ⟨fun vs H Q E h => absurd h (no vs H Q E), fun A outer s H args us vs Q E _ _ _ _ h => absurd h (no vs H Q E)⟩
theorem no_part {K : PySem.W.Frag} : ∀ vs H Q E, ¬ spPart K 0 vs H Q E := fun vs H Q E h => by
  obtain ⟨bx, il, nm, fn, w, d, names, funs, fv, ws, _, P, hn, _⟩ := h
  have := P.d0
  omega
theorem no_size {K : PySem.W.Frag} : ∀ vs H Q E, ¬ spSize K 0 vs H Q E := fun vs H Q E h => by
  obtain ⟨v, p, _, _, hd, _⟩ := h
  have := dep_pos p
  omega
theorem no_alike {K : PySem.W.Frag} : ∀ vs H Q E, ¬ spAlike K 0 vs H Q E := fun vs H Q E h => by
  obtain ⟨x, y, d, _, _, _, hd, _⟩ := h
  omega
theorem no_look {K : PySem.W.Frag} {C : Addr} : ∀ vs H Q E, ¬ spLook K C 0 vs H Q E := fun vs H Q E h => by
  obtain ⟨p, dx, v, an, af, pt, names, fs, kvs, pl, _, _, _, O, _⟩ := h
  have := O.dn
  have := dep_pos pt
  omega
theorem no_work {K : PySem.W.Frag} {C : Addr} : ∀ vs H Q E, ¬ spWork K C 0 vs H Q E := fun vs H Q E h => by
  obtain ⟨p, dx, v, ap, af, ar, sa, near, pt, P, fe, ns, rows, said, _, _, _, _, O, _⟩ := h
  have := O.dp
  have := dpt_pos pt (dlt fe)
  omega
theorem no_rcall {K : PySem.W.Frag} {C : Addr} : ∀ vs H Q E, ¬ spRCall K C 0 vs H Q E := fun vs H Q E h => by
  obtain ⟨p, dx, v, ap, af, ar, sa, near, f, as, P, fe, ns, rows, said, _, _, _, _, O, _⟩ := h
  have h1 := O.dp
  simp only [Part.dpt] at h1
  omega
theorem no_lwork {K : PySem.W.Frag} : ∀ vs H Q E, ¬ spLWork K 0 vs H Q E := fun vs H Q E h => by
  obtain ⟨v, ap, af, told, r1, r2, near, pt, P, fe, ns, rows, said, _, _, _, _, O, _⟩ := h
  have := O.dp
  have := dpt_pos pt (dlt fe)
  omega
theorem no_lcall {K : PySem.W.Frag} : ∀ vs H Q E, ¬ spLCall K 0 vs H Q E := fun vs H Q E h => by
  obtain ⟨v, ap, af, told, r1, r2, near, f, as, P, fe, ns, rows, said, _, _, _, _, O, _⟩ := h
  have h1 := O.dp
  simp only [Part.dpt] at h1
  omega
theorem no_wants {K : PySem.W.Frag} {C : Addr} : ∀ vs H Q E, ¬ spWants K C 0 vs H Q E := fun vs H Q E h => by
  obtain ⟨p, dx, v, af, pt, U, ns, fa, fs, kvs, _, _, _, _, O, hd, _⟩ := h
  have := dep_pos pt
  omega
theorem no_known {K : PySem.W.Frag} {C : Addr} : ∀ vs H Q E, ¬ spKnown K C 0 vs H Q E := fun vs H Q E h => by
  obtain ⟨p, dx, v, af, f, ps, b, r, U, ns, fa, fs, kvs, _, _, _, _, O, hd, _⟩ := h
  omega
theorem no_hmade {K : PySem.W.Frag} {C : Addr} : ∀ vs H Q E, ¬ spHMade K C 0 vs H Q E := fun vs H Q E h => by
  obtain ⟨p, dx, v, af, pt, U, ns, fa, fs, kvs, _, _, _, _, O, _, hd, _⟩ := h
  have := dep_pos pt
  omega
theorem no_lclosed {K : PySem.W.Frag} : ∀ vs H Q E, ¬ spLClosed K 0 vs H Q E := fun vs H Q E h => by
  obtain ⟨v, an, pt, names, _, _, _, _, hd, _⟩ := h
  have := dep_pos pt
  omega
theorem no_lfuns {K : PySem.W.Frag} : ∀ vs H Q E, ¬ spLFuns K 0 vs H Q E := fun vs H Q E h => by
  obtain ⟨v, pt, _, _, hd, _⟩ := h
  have := dep_pos pt
  omega
theorem no_calls {K : PySem.W.Frag} : ∀ vs H Q E, ¬ spCalls K 0 vs H Q E := fun vs H Q E h => by
  obtain ⟨v, pt, _, _, hd, _⟩ := h
  have := dep_pos pt
  omega

section
variable {P : Program} {w : World} {K : PySem.W.Frag} {mg : Str → Option Value} {base : Heap} {dP cChk cRms cHan : Addr} {es : Array DictEntry} {n0 : Nat}
theorem ok_Check___init__ {f : Addr} {fd : FuncData}  (F : Fun K "__init__" "Check.__init__" s_Check___init__ f fd) (T : Txt K w mg dP es n0 cChk cRms cHan)   : FnOk P w K mg base C8.CX0 (0 + 1) f fd ["self"] (spChkInit cChk) := by
  refine F.ok sc_Check___init__ (fun vs H Q E h => by first | (obtain ⟨_, rfl, _⟩ := h; rfl) | (obtain ⟨_, _, rfl, _⟩ := h; rfl) | (obtain ⟨_, _, _, rfl, _⟩ := h; rfl) | (obtain ⟨_, _, _, _, rfl, _⟩ := h; rfl) | (obtain ⟨_, _, _, _, _, rfl, _⟩ := h; rfl) | (obtain ⟨_, _, _, _, _, _, rfl, _⟩ := h; rfl) | (obtain ⟨_, _, _, _, _, _, _, rfl, _⟩ := h; rfl) | (obtain ⟨_, _, _, _, _, _, _, _, rfl, _⟩ := h; rfl) | (obtain ⟨_, _, _, _, _, _, _, _, _, rfl, _⟩ := h; rfl) | (obtain ⟨_, _, _, _, _, _, _, _, _, _, rfl, _⟩ := h; rfl) | (obtain ⟨_, _, _, _, _, _, _, _, _, _, _, rfl, _⟩ := h; rfl) | (obtain ⟨_, _, _, _, _, _, _, _, _, _, _, _, rfl, _⟩ := h; rfl) | (obtain ⟨_, _, _, _, _, _, _, _, _, _, _, _, _, rfl, _⟩ := h; rfl) | (obtain ⟨_, _, _, _, _, _, _, _, _, _, _, _, _, _, rfl, _⟩ := h; rfl) | (obtain ⟨_, _, _, _, _, _, _, _, _, _, _, _, _, _, _, rfl, _⟩ := h; rfl) | (obtain ⟨_, _, _, _, _, _, _, _, _, _, _, _, _, _, _, _, rfl, _⟩ := h; rfl)) (fun cdv A outer s H vs Q E hr h => ⟨t_chk_init K, ?_, pure_chk_init T.chk vs H Q E h⟩)
  have hu := hu_of hr
  exact (pss_one (ps_fld (pv 0) pe_int rfl))
theorem ok_Rooms___init__ {f : Addr} {fd : FuncData}  (F : Fun K "__init__" "Rooms.__init__" s_Rooms___init__ f fd) (T : Txt K w mg dP es n0 cChk cRms cHan)   : FnOk P w K mg base C8.CX0 (0 + 1) f fd ["self", "meaning"] (spRmInit cRms) := by
  refine F.ok sc_Rooms___init__ (fun vs H Q E h => by first | (obtain ⟨_, rfl, _⟩ := h; rfl) | (obtain ⟨_, _, rfl, _⟩ := h; rfl) | (obtain ⟨_, _, _, rfl, _⟩ := h; rfl) | (obtain ⟨_, _, _, _, rfl, _⟩ := h; rfl) | (obtain ⟨_, _, _, _, _, rfl, _⟩ := h; rfl) | (obtain ⟨_, _, _, _, _, _, rfl, _⟩ := h; rfl) | (obtain ⟨_, _, _, _, _, _, _, rfl, _⟩ := h; rfl) | (obtain ⟨_, _, _, _, _, _, _, _, rfl, _⟩ := h; rfl) | (obtain ⟨_, _, _, _, _, _, _, _, _, rfl, _⟩ := h; rfl) | (obtain ⟨_, _, _, _, _, _, _, _, _, _, rfl, _⟩ := h; rfl) | (obtain ⟨_, _, _, _, _, _, _, _, _, _, _, rfl, _⟩ := h; rfl) | (obtain ⟨_, _, _, _, _, _, _, _, _, _, _, _, rfl, _⟩ := h; rfl) | (obtain ⟨_, _, _, _, _, _, _, _, _, _, _, _, _, rfl, _⟩ := h; rfl) | (obtain ⟨_, _, _, _, _, _, _, _, _, _, _, _, _, _, rfl, _⟩ := h; rfl) | (obtain ⟨_, _, _, _, _, _, _, _, _, _, _, _, _, _, _, rfl, _⟩ := h; rfl) | (obtain ⟨_, _, _, _, _, _, _, _, _, _, _, _, _, _, _, _, rfl, _⟩ := h; rfl)) (fun cdv A outer s H vs Q E hr h => ⟨t_rinit K, ?_, pure_rinit T.rms vs H Q E h⟩)
  have hu := hu_of hr
  exact (pss_cons (ps_fld (pv 0) (pe_cmpR op_eq (pv 1) (C8.pe_gc (by rfl) T.g_NEAR) (nomark _)) rfl)
    (pss_cons (ps_fld (pv 0) (pe_lst pa_nil) rfl)
    (pss_one (ps_fld (pv 0) (pe_lst pa_nil) rfl))))
theorem ok_law_begun {f : Addr} {fd : FuncData}  (F : Fun K "_law_begun" "_law_begun" s__law_begun f fd) (T : Txt K w mg dP es n0 cChk cRms cHan)   : FnOk P w K mg base C8.CX0 (0 + 1) f fd ["_law_script"] (spBegun K) := by
  refine F.ok sc__law_begun (fun vs H Q E h => by first | (obtain ⟨_, rfl, _⟩ := h; rfl) | (obtain ⟨_, _, rfl, _⟩ := h; rfl) | (obtain ⟨_, _, _, rfl, _⟩ := h; rfl) | (obtain ⟨_, _, _, _, rfl, _⟩ := h; rfl) | (obtain ⟨_, _, _, _, _, rfl, _⟩ := h; rfl) | (obtain ⟨_, _, _, _, _, _, rfl, _⟩ := h; rfl) | (obtain ⟨_, _, _, _, _, _, _, rfl, _⟩ := h; rfl) | (obtain ⟨_, _, _, _, _, _, _, _, rfl, _⟩ := h; rfl) | (obtain ⟨_, _, _, _, _, _, _, _, _, rfl, _⟩ := h; rfl) | (obtain ⟨_, _, _, _, _, _, _, _, _, _, rfl, _⟩ := h; rfl) | (obtain ⟨_, _, _, _, _, _, _, _, _, _, _, rfl, _⟩ := h; rfl) | (obtain ⟨_, _, _, _, _, _, _, _, _, _, _, _, rfl, _⟩ := h; rfl) | (obtain ⟨_, _, _, _, _, _, _, _, _, _, _, _, _, rfl, _⟩ := h; rfl) | (obtain ⟨_, _, _, _, _, _, _, _, _, _, _, _, _, _, rfl, _⟩ := h; rfl) | (obtain ⟨_, _, _, _, _, _, _, _, _, _, _, _, _, _, _, rfl, _⟩ := h; rfl) | (obtain ⟨_, _, _, _, _, _, _, _, _, _, _, _, _, _, _, _, rfl, _⟩ := h; rfl)) (fun cdv A outer s H vs Q E hr h => ⟨t_begun K, ?_, pure_begun vs H Q E h⟩)
  have hu := hu_of hr
  exact (pss_cons (ps_asg pe_int (pg_name (i := 1) sc__law_begun.nd rfl (Or.inl rfl)))
    (pss_cons (ps_for PassesOwn.never rfl (pi_list (pv 0)) (pg_name (i := 2) sc__law_begun.nd rfl (Or.inl rfl)) (pss_one (ps_asg (pe_op op_mod (pe_op op_add (pe_op op_add (pe_op op_mul (pv 1) pe_int) (pe_op op_mul (pv 2) pe_int)) pe_int) pe_int) (pg_name (i := 1) sc__law_begun.nd rfl (Or.inl rfl)))))
    (pss_one (ps_ret (pe_lst (pa_cons (pe_callTy call_list_of (by rfl) T.b_list (by decide +kernel) (pa_cons (pv 0) pa_nil)) (pa_cons (pe_op op_mul (pv 1) (pe_callTy call_int1 (by rfl) T.b_int (by decide +kernel) (pa_cons (pe_cmpR op_gt (pe_callB call_len_seq (by rfl) T.b_len (by decide +kernel) (pa_cons (pv 0) pa_nil)) pe_int (nomark _)) pa_nil))) pa_nil)))))))
theorem ok_law_take {f : Addr} {fd : FuncData}  (F : Fun K "_law_take" "_law_take" s__law_take f fd) (T : Txt K w mg dP es n0 cChk cRms cHan)   : FnOk P w K mg base C8.CX0 (0 + 1) f fd ["_law_box", "_law_many"] spTake := by
  refine F.ok sc__law_take (fun vs H Q E h => by first | (obtain ⟨_, rfl, _⟩ := h; rfl) | (obtain ⟨_, _, rfl, _⟩ := h; rfl) | (obtain ⟨_, _, _, rfl, _⟩ := h; rfl) | (obtain ⟨_, _, _, _, rfl, _⟩ := h; rfl) | (obtain ⟨_, _, _, _, _, rfl, _⟩ := h; rfl) | (obtain ⟨_, _, _, _, _, _, rfl, _⟩ := h; rfl) | (obtain ⟨_, _, _, _, _, _, _, rfl, _⟩ := h; rfl) | (obtain ⟨_, _, _, _, _, _, _, _, rfl, _⟩ := h; rfl) | (obtain ⟨_, _, _, _, _, _, _, _, _, rfl, _⟩ := h; rfl) | (obtain ⟨_, _, _, _, _, _, _, _, _, _, rfl, _⟩ := h; rfl) | (obtain ⟨_, _, _, _, _, _, _, _, _, _, _, rfl, _⟩ := h; rfl) | (obtain ⟨_, _, _, _, _, _, _, _, _, _, _, _, rfl, _⟩ := h; rfl) | (obtain ⟨_, _, _, _, _, _, _, _, _, _, _, _, _, rfl, _⟩ := h; rfl) | (obtain ⟨_, _, _, _, _, _, _, _, _, _, _, _, _, _, rfl, _⟩ := h; rfl) | (obtain ⟨_, _, _, _, _, _, _, _, _, _, _, _, _, _, _, rfl, _⟩ := h; rfl) | (obtain ⟨_, _, _, _, _, _, _, _, _, _, _, _, _, _, _, _, rfl, _⟩ := h; rfl)) (fun cdv A outer s H vs Q E hr h => ⟨t_take K, ?_, pure_take vs H Q E h⟩)
  have hu := hu_of hr
  exact (pss_cons (ps_if (pt_cmpR (op_eqD hr.units) (pe_ix ix_list (pv 0) pe_int (fun _ _ => rfl)) (pe_lst pa_nil) (nomark _)) (pss_cons (ps_asg (pe_op op_mod (pe_op op_mul (pe_ix ix_list (pv 0) pe_int (fun _ _ => rfl)) pe_int) pe_int) (pg_sub (pv 0) pe_int set_list))
    (pss_one (ps_ret (pe_op op_mod (pe_op op_fdiv (pe_ix ix_list (pv 0) pe_int (fun _ _ => rfl)) pe_int) (pv 1))))) pss_nil)
    (pss_cons (ps_asg (pe_ix ix_list (pe_ix ix_list (pv 0) pe_int (fun _ _ => rfl)) pe_int (fun _ _ => rfl)) (pg_name (i := 2) sc__law_take.nd rfl (Or.inl rfl)))
    (pss_cons (ps_asg (pe_op op_fdiv (pv 2) (pv 1)) (pg_sub (pe_ix ix_list (pv 0) pe_int (fun _ _ => rfl)) pe_int set_list))
    (pss_cons (ps_if (PW.pt (pw_or (pt_cmpR op_eq (pe_ix ix_list (pe_ix ix_list (pv 0) pe_int (fun _ _ => rfl)) pe_int (fun _ _ => rfl)) pe_int (nomark _)) (pw_or1 (pt_cmpR op_eq (pe_ix ix_list (pe_ix ix_list (pv 0) pe_int (fun _ _ => rfl)) pe_int (fun _ _ => rfl)) (pe_un un_neg pe_int) (nomark _))))) (pss_one (ps_expr (pe_bm PySem.F.plainAttrs_list PySem.F.slot_list_pop PySem.F.type_list_pop mt_popAt (pe_ix ix_list (pv 0) pe_int (fun _ _ => rfl)) (pa_cons pe_int pa_nil)))) pss_nil)
    (pss_one (ps_ret (pe_op op_mod (pv 2) (pv 1))))))))
theorem ok_law_leaf {f : Addr} {fd : FuncData}  (F : Fun K "_law_leaf" "_law_leaf" s__law_leaf f fd) (T : Txt K w mg dP es n0 cChk cRms cHan)  (c_law_take : C8.Cal P w K mg base (1) "_law_take" spTake []) : FnOk P w K mg base C8.CX0 (1 + 1) f fd ["_law_box", "_law_names"] (spLeaf K) := by
  refine F.ok sc__law_leaf (fun vs H Q E h => by first | (obtain ⟨_, rfl, _⟩ := h; rfl) | (obtain ⟨_, _, rfl, _⟩ := h; rfl) | (obtain ⟨_, _, _, rfl, _⟩ := h; rfl) | (obtain ⟨_, _, _, _, rfl, _⟩ := h; rfl) | (obtain ⟨_, _, _, _, _, rfl, _⟩ := h; rfl) | (obtain ⟨_, _, _, _, _, _, rfl, _⟩ := h; rfl) | (obtain ⟨_, _, _, _, _, _, _, rfl, _⟩ := h; rfl) | (obtain ⟨_, _, _, _, _, _, _, _, rfl, _⟩ := h; rfl) | (obtain ⟨_, _, _, _, _, _, _, _, _, rfl, _⟩ := h; rfl) | (obtain ⟨_, _, _, _, _, _, _, _, _, _, rfl, _⟩ := h; rfl) | (obtain ⟨_, _, _, _, _, _, _, _, _, _, _, rfl, _⟩ := h; rfl) | (obtain ⟨_, _, _, _, _, _, _, _, _, _, _, _, rfl, _⟩ := h; rfl) | (obtain ⟨_, _, _, _, _, _, _, _, _, _, _, _, _, rfl, _⟩ := h; rfl) | (obtain ⟨_, _, _, _, _, _, _, _, _, _, _, _, _, _, rfl, _⟩ := h; rfl) | (obtain ⟨_, _, _, _, _, _, _, _, _, _, _, _, _, _, _, rfl, _⟩ := h; rfl) | (obtain ⟨_, _, _, _, _, _, _, _, _, _, _, _, _, _, _, _, rfl, _⟩ := h; rfl)) (fun cdv A outer s H vs Q E hr h => ⟨t_leaf K, ?_, pure_leaf vs H Q E h⟩)
  have hu := hu_of hr
  exact (pss_cons (ps_if (PW.pt (pw_or (pt_cmpR (op_eqD hr.units) (pv 1) (pe_lst pa_nil) (nomark _)) (pw_or1 (pt_cmpR op_eq (C8.pe_c c_law_take hr (by omega) rfl (pa_cons (pv 0) (pa_cons pe_int pa_nil))) pe_int (nomark _))))) (pss_one (ps_ret (pe_tup (pa_cons pe_str (pa_cons (C8.pe_c c_law_take hr (by omega) rfl (pa_cons (pv 0) (pa_cons (pe_ix ix_list (pe_lst (pa_cons pe_int (pa_cons pe_int pa_nil))) (pe_callTy call_int1 (by rfl) T.b_int (by decide +kernel) (pa_cons (pe_cmpR op_eq (C8.pe_c c_law_take hr (by omega) rfl (pa_cons (pv 0) (pa_cons pe_int pa_nil))) pe_int (nomark _)) pa_nil)) (fun _ _ => rfl)) pa_nil))) pa_nil))))) pss_nil)
    (pss_one (ps_ret (pe_tup (pa_cons pe_str (pa_cons (pe_ix ix_list (pv 1) (pe_op op_sub (pe_op op_sub (pe_callB call_len_seq (by rfl) T.b_len (by decide +kernel) (pa_cons (pv 1) pa_nil)) pe_int) (C8.pe_c c_law_take hr (by omega) rfl (pa_cons (pv 0) (pa_cons (pe_callB call_len_seq (by rfl) T.b_len (by decide +kernel) (pa_cons (pv 1) pa_nil)) pa_nil)))) (fun _ _ => rfl)) pa_nil))))))
theorem ok_law_fun {f : Addr} {fd : FuncData} {n : Nat} (F : Fun K "_law_fun" "_law_fun" s__law_fun f fd) (T : Txt K w mg dP es n0 cChk cRms cHan)  (c_law_take : C8.Cal P w K mg base (1) "_law_take" spTake []) (c_law_part : C8.Cal P w K mg base (2 * n + 3) "_law_part" (spPart K n) []) (c_law_leaf : C8.Cal P w K mg base (2) "_law_leaf" (spLeaf K) []) : FnOk P w K mg base C8.CX0 ((2 * n + 3) + 1) f fd ["_law_box", "_law_deep", "_law_names", "_law_funs_here", "_law_words"] (spFun K n) := by
  refine F.ok sc__law_fun (fun vs H Q E h => by first | (obtain ⟨_, rfl, _⟩ := h; rfl) | (obtain ⟨_, _, rfl, _⟩ := h; rfl) | (obtain ⟨_, _, _, rfl, _⟩ := h; rfl) | (obtain ⟨_, _, _, _, rfl, _⟩ := h; rfl) | (obtain ⟨_, _, _, _, _, rfl, _⟩ := h; rfl) | (obtain ⟨_, _, _, _, _, _, rfl, _⟩ := h; rfl) | (obtain ⟨_, _, _, _, _, _, _, rfl, _⟩ := h; rfl) | (obtain ⟨_, _, _, _, _, _, _, _, rfl, _⟩ := h; rfl) | (obtain ⟨_, _, _, _, _, _, _, _, _, rfl, _⟩ := h; rfl) | (obtain ⟨_, _, _, _, _, _, _, _, _, _, rfl, _⟩ := h; rfl) | (obtain ⟨_, _, _, _, _, _, _, _, _, _, _, rfl, _⟩ := h; rfl) | (obtain ⟨_, _, _, _, _, _, _, _, _, _, _, _, rfl, _⟩ := h; rfl) | (obtain ⟨_, _, _, _, _, _, _, _, _, _, _, _, _, rfl, _⟩ := h; rfl) | (obtain ⟨_, _, _, _, _, _, _, _, _, _, _, _, _, _, rfl, _⟩ := h; rfl) | (obtain ⟨_, _, _, _, _, _, _, _, _, _, _, _, _, _, _, rfl, _⟩ := h; rfl) | (obtain ⟨_, _, _, _, _, _, _, _, _, _, _, _, _, _, _, _, rfl, _⟩ := h; rfl)) (fun cdv A outer s H vs Q E hr h => ⟨t_fun K n, ?_, pure_fun vs H Q E h⟩)
  have hu := hu_of hr
  exact (pss_cons (ps_asg (pe_ix ix_list (pv 4) (C8.pe_c c_law_take hr (by omega) rfl (pa_cons (pv 0) (pa_cons pe_int pa_nil))) (fun _ _ => rfl)) (pg_name (i := 5) sc__law_fun.nd rfl (Or.inr rfl)))
    (pss_cons (ps_asg (pe_slice sl_list (pv 4) po_none (po_some (C8.pe_c c_law_take hr (by omega) rfl (pa_cons (pv 0) (pa_cons (pe_callB call_len_seq (by rfl) T.b_len (by decide +kernel) (pa_cons (pv 4) pa_nil)) pa_nil))))) (pg_name (i := 6) sc__law_fun.nd rfl (Or.inl rfl)))
    (C8.pss_cut (ps_if (pt_cmpR op_eq (C8.pe_c c_law_take hr (by omega) rfl (pa_cons (pv 0) (pa_cons pe_int pa_nil))) pe_int (nomark _)) (pss_one (ps_asg (pe_revL (pv 6)) (pg_name (i := 6) sc__law_fun.nd rfl (Or.inl rfl)))) pss_nil) (pss_cons (ps_asg (C8.pe_c c_law_part hr (by omega) rfl (pa_cons (pv 0) (pa_cons (pe_op op_sub (pv 1) pe_int) (pa_cons (pe_op op_cat (pv 2) (pv 6)) (pa_cons (pv 3) (pa_cons (pv 4) pa_nil)))))) (pg_name (i := 7) sc__law_fun.nd rfl (Or.inl rfl)))
    (pss_cons (ps_asg (pe_op op_cat (pe_lc (own := [("_law_fun_here", 12)]) (g := (gName 12)) (tt := (tTest (tOp rNe (tOp (rIxT K) (tVar 12) (tC (.int 0))) (tVar 5)))) (te := (tVar 12)) rfl sc__law_fun.nd (pi_list (pv 3)) (blkOk_by (N := ["_law_box", "_law_deep", "_law_names", "_law_funs_here", "_law_words", "_law_name", "_law_params", "_law_body", "_law_known", "_law_rest", "_law_word", "_law_call_here", "_law_fun_here", "_law_param"]) (sc := defScope s__law_fun) (by decide +kernel)) (fun _ _ _ _ _ => (pg_name (i := 12) sc__law_fun.nd rfl (Or.inl rfl))) (fun _ _ _ _ _ => (pts_one (pt_cmpR op_ne (pe_ix ix_tup (pv 12) pe_int (fun _ _ => rfl)) (pv 5) (nomark _)))) (fun _ _ _ _ _ => (pv 12))) (pe_lst (pa_cons (pe_tup (pa_cons (pv 5) (pa_cons (pe_callB call_len_seq (by rfl) T.b_len (by decide +kernel) (pa_cons (pv 6) pa_nil)) pa_nil))) pa_nil))) (pg_name (i := 8) sc__law_fun.nd rfl (Or.inl rfl)))
    (pss_cons (ps_asg (C8.pe_c c_law_part hr (by omega) rfl (pa_cons (pv 0) (pa_cons (pe_op op_sub (pv 1) pe_int) (pa_cons (pv 2) (pa_cons (pv 8) (pa_cons (pv 4) pa_nil)))))) (pg_name (i := 9) sc__law_fun.nd rfl (Or.inl rfl)))
    (pss_cons (ps_if (pt_cmpR op_gt (C8.pe_c c_law_take hr (by omega) rfl (pa_cons (pv 0) (pa_cons pe_int pa_nil))) pe_int (nomark _)) (pss_cons (ps_asg (pe_ix ix_list (pv 4) (C8.pe_c c_law_take hr (by omega) rfl (pa_cons (pv 0) (pa_cons (pe_callB call_len_seq (by rfl) T.b_len (by decide +kernel) (pa_cons (pv 4) pa_nil)) pa_nil))) (fun _ _ => rfl)) (pg_name (i := 10) sc__law_fun.nd rfl (Or.inl rfl)))
    (pss_cons (ps_asg (pe_tup (pa_cons pe_str (pa_cons (pv 5) (pa_cons (pe_callTy call_tuple_of (by rfl) T.b_tuple (by decide +kernel) (pa_cons (pe_lc (own := [("_law_param", 13)]) (g := (gName 13)) (tt := tYes) (te := (tCall (spLeaf K) [] C8.E0 (tCons (tVar 0) (tCons (tVar 2) tNil)))) rfl sc__law_fun.nd (pi_list (pv 6)) (blkOk_by (N := ["_law_box", "_law_deep", "_law_names", "_law_funs_here", "_law_words", "_law_name", "_law_params", "_law_body", "_law_known", "_law_rest", "_law_word", "_law_call_here", "_law_fun_here", "_law_param"]) (sc := defScope s__law_fun) (by decide +kernel)) (fun _ _ _ _ _ => (pg_name (i := 13) sc__law_fun.nd rfl (Or.inl rfl))) (fun _ _ _ _ _ => pts_nil) (fun _ _ _ _ _ => (C8.pe_c c_law_leaf hr (by omega) rfl (pa_cons (pv 0) (pa_cons (pv 2) pa_nil))))) pa_nil)) pa_nil)))) (pg_name (i := 11) sc__law_fun.nd rfl (Or.inl rfl)))
    (pss_one (ps_asg (pe_tup (pa_cons pe_str (pa_cons (pv 9) (pa_cons (pe_tup (pa_cons pe_str (pa_cons (pv 10) (pa_cons (C8.pe_c c_law_leaf hr (by omega) rfl (pa_cons (pv 0) (pa_cons (pv 2) pa_nil))) (pa_cons (pv 11) pa_nil))))) pa_nil)))) (pg_name (i := 9) sc__law_fun.nd rfl (Or.inl rfl)))))) pss_nil)
    (pss_one (ps_ret (pe_tup (pa_cons pe_str (pa_cons (pv 5) (pa_cons (pe_callTy call_tuple_of (by rfl) T.b_tuple (by decide +kernel) (pa_cons (pv 6) pa_nil)) (pa_cons (pv 7) (pa_cons (pv 9) pa_nil)))))))))))))))
theorem ok_law_part {f : Addr} {fd : FuncData} {n : Nat} (F : Fun K "_law_part" "_law_part" s__law_part f fd) (T : Txt K w mg dP es n0 cChk cRms cHan)  (c_law_take : C8.Cal P w K mg base (1) "_law_take" spTake []) (c_law_part : C8.Cal P w K mg base (2 * n + 3) "_law_part" (spPart K n) []) (c_law_leaf : C8.Cal P w K mg base (2) "_law_leaf" (spLeaf K) []) (c_law_fun : C8.Cal P w K mg base (2 * n + 4) "_law_fun" (spFun K n) []) : FnOk P w K mg base C8.CX0 ((2 * n + 4) + 1) f fd ["_law_box", "_law_deep", "_law_names", "_law_funs_here", "_law_words"] (spPart K (n + 1)) := by
  refine F.ok sc__law_part (fun vs H Q E h => by first | (obtain ⟨_, rfl, _⟩ := h; rfl) | (obtain ⟨_, _, rfl, _⟩ := h; rfl) | (obtain ⟨_, _, _, rfl, _⟩ := h; rfl) | (obtain ⟨_, _, _, _, rfl, _⟩ := h; rfl) | (obtain ⟨_, _, _, _, _, rfl, _⟩ := h; rfl) | (obtain ⟨_, _, _, _, _, _, rfl, _⟩ := h; rfl) | (obtain ⟨_, _, _, _, _, _, _, rfl, _⟩ := h; rfl) | (obtain ⟨_, _, _, _, _, _, _, _, rfl, _⟩ := h; rfl) | (obtain ⟨_, _, _, _, _, _, _, _, _, rfl, _⟩ := h; rfl) | (obtain ⟨_, _, _, _, _, _, _, _, _, _, rfl, _⟩ := h; rfl) | (obtain ⟨_, _, _, _, _, _, _, _, _, _, _, rfl, _⟩ := h; rfl) | (obtain ⟨_, _, _, _, _, _, _, _, _, _, _, _, rfl, _⟩ := h; rfl) | (obtain ⟨_, _, _, _, _, _, _, _, _, _, _, _, _, rfl, _⟩ := h; rfl) | (obtain ⟨_, _, _, _, _, _, _, _, _, _, _, _, _, _, rfl, _⟩ := h; rfl) | (obtain ⟨_, _, _, _, _, _, _, _, _, _, _, _, _, _, _, rfl, _⟩ := h; rfl) | (obtain ⟨_, _, _, _, _, _, _, _, _, _, _, _, _, _, _, _, rfl, _⟩ := h; rfl)) (fun cdv A outer s H vs Q E hr h => ⟨t_part K n, ?_, pure_part vs H Q E h⟩)
  have hu := hu_of hr
  exact (pss_cons (ps_asg (C8.pe_c c_law_take hr (by omega) rfl (pa_cons (pv 0) (pa_cons pe_int pa_nil))) (pg_name (i := 5) sc__law_part.nd rfl (Or.inl rfl)))
    (pss_cons (ps_if (PW.pt (pw_or (pt_cmpR op_le (pv 1) pe_int (nomark _)) (pw_or1 (pt_cmpR op_eq (pv 5) pe_int (nomark _))))) (pss_one (ps_ret (C8.pe_c c_law_leaf hr (by omega) rfl (pa_cons (pv 0) (pa_cons (pv 2) pa_nil))))) pss_nil)
    (pss_cons (ps_if (pt_cmpR op_lt (pv 5) pe_int (nomark _)) (pss_one (ps_ret (C8.pe_c c_law_fun hr (by omega) rfl (pa_cons (pv 0) (pa_cons (pv 1) (pa_cons (pv 2) (pa_cons (pv 3) (pa_cons (pv 4) pa_nil)))))))) pss_nil)
    (pss_cons (ps_if (pt_cmpR op_lt (pv 5) pe_int (nomark _)) (pss_cons (ps_asg (pe_ix ix_list (pv 4) (C8.pe_c c_law_take hr (by omega) rfl (pa_cons (pv 0) (pa_cons (pe_callB call_len_seq (by rfl) T.b_len (by decide +kernel) (pa_cons (pv 4) pa_nil)) pa_nil))) (fun _ _ => rfl)) (pg_name (i := 6) sc__law_part.nd rfl (Or.inl rfl)))
    (pss_cons (ps_asg (C8.pe_c c_law_part hr (by omega) rfl (pa_cons (pv 0) (pa_cons (pe_op op_sub (pv 1) pe_int) (pa_cons (pv 2) (pa_cons (pv 3) (pa_cons (pv 4) pa_nil)))))) (pg_name (i := 7) sc__law_part.nd rfl (Or.inl rfl)))
    (pss_one (ps_ret (pe_tup (pa_cons pe_str (pa_cons (pv 6) (pa_cons (pv 7) (pa_cons (C8.pe_c c_law_part hr (by omega) rfl (pa_cons (pv 0) (pa_cons (pe_op op_sub (pv 1) pe_int) (pa_cons (pe_op op_cat (pv 2) (pe_lst (pa_cons (pv 6) pa_nil))) (pa_cons (pv 3) (pa_cons (pv 4) pa_nil)))))) pa_nil))))))))) pss_nil)
    (pss_cons (ps_if (PW.pt (pw_and (pt_cmpR op_lt (pv 5) pe_int (nomark _)) (pw_and1 (pt_cmpR (op_neD hr.units) (pv 3) (pe_lst pa_nil) (nomark _))))) (pss_cons (ps_asg (pe_ix ix_list (pv 3) (pe_op op_sub (pe_op op_sub (pe_callB call_len_seq (by rfl) T.b_len (by decide +kernel) (pa_cons (pv 3) pa_nil)) pe_int) (C8.pe_c c_law_take hr (by omega) rfl (pa_cons (pv 0) (pa_cons (pe_callB call_len_seq (by rfl) T.b_len (by decide +kernel) (pa_cons (pv 3) pa_nil)) pa_nil)))) (fun _ _ => rfl)) (pg_tup (by rfl) (pgs_cons (pg_name (i := 8) sc__law_part.nd rfl (Or.inl rfl)) (pgs_cons (pg_name (i := 9) sc__law_part.nd rfl (Or.inl rfl)) pgs_nil))))
    (pss_one (ps_ret (pe_tup (pa_cons pe_str (pa_cons (pv 8) (pa_cons (pe_callTy call_tuple_of (by rfl) T.b_tuple (by decide +kernel) (pa_cons (pe_lc (own := [("_law_k", 11)]) (g := (gName 11)) (tt := tYes) (te := (tCall (spPart K n) [] C8.E0 (tCons (tVar 0) (tCons (tOp oSub (tVar 1) (tC (.int 2))) (tCons (tVar 2) (tCons (tVar 3) (tCons (tVar 4) tNil))))))) rfl sc__law_part.nd (pi_range1 rfl T.b_range (pa_cons (pv 9) pa_nil)) (blkOk_by (N := ["_law_box", "_law_deep", "_law_names", "_law_funs_here", "_law_words", "_law_way", "_law_word", "_law_first", "_law_name", "_law_many", "_law_some", "_law_k"]) (sc := defScope s__law_part) (by decide +kernel)) (fun _ _ _ _ _ => (pg_name (i := 11) sc__law_part.nd rfl (Or.inl rfl))) (fun _ _ _ _ _ => pts_nil) (fun _ _ _ _ _ => (C8.pe_c c_law_part hr (by omega) rfl (pa_cons (pv 0) (pa_cons (pe_op op_sub (pv 1) pe_int) (pa_cons (pv 2) (pa_cons (pv 3) (pa_cons (pv 4) pa_nil)))))))) pa_nil)) pa_nil))))))) pss_nil)
    (pss_cons (ps_if (pt_cmpR op_eq (pv 5) pe_int (nomark _)) (pss_one (ps_ret (pe_tup (pa_cons pe_str (pa_cons (C8.pe_c c_law_part hr (by omega) rfl (pa_cons (pv 0) (pa_cons (pe_op op_sub (pv 1) pe_int) (pa_cons (pv 2) (pa_cons (pv 3) (pa_cons (pv 4) pa_nil)))))) pa_nil))))) pss_nil)
    (pss_cons (ps_setLc (i := 10) (own := [("_law_k", 11)]) (g := (gName 11)) (tt := tYes) (te := (tCall (spPart K n) [] C8.E0 (tCons (tVar 0) (tCons (tOp oSub (tVar 1) (tC (.int 2))) (tCons (tVar 2) (tCons (tVar 3) (tCons (tVar 4) tNil))))))) rfl sc__law_part.nd rfl rfl (sw_true rfl rfl rfl (by decide +kernel)) (pi_range1 rfl T.b_range (pa_cons pe_int pa_nil)) (blkOk_by (N := ["_law_box", "_law_deep", "_law_names", "_law_funs_here", "_law_words", "_law_way", "_law_word", "_law_first", "_law_name", "_law_many", "_law_some", "_law_k"]) (sc := defScope s__law_part) (by decide +kernel)) (fun _ _ _ _ _ => (pg_name (i := 11) sc__law_part.nd rfl (Or.inl rfl))) (fun _ _ _ _ _ => pts_nil) (fun _ _ _ _ _ => (C8.pe_c c_law_part hr (by omega) rfl (pa_cons (pv 0) (pa_cons (pe_op op_sub (pv 1) pe_int) (pa_cons (pv 2) (pa_cons (pv 3) (pa_cons (pv 4) pa_nil))))))))
    (pss_cons (ps_if (pt_cmpR op_eq (C8.pe_c c_law_take hr (by omega) rfl (pa_cons (pv 0) (pa_cons pe_int pa_nil))) pe_int (nomark _)) (pss_one (ps_ret (pe_tup (pa_cons pe_str (pa_cons (pe_ix ix_list (pv 10) pe_int (fun _ _ => rfl)) (pa_cons (pe_ix ix_list (pv 10) pe_int (fun _ _ => rfl)) (pa_cons (C8.pe_c c_law_leaf hr (by omega) rfl (pa_cons (pv 0) (pa_cons (pv 2) pa_nil))) pa_nil))))))) pss_nil)
    (pss_one (ps_ret (pe_tup (pa_cons (pe_ix ix_list (pe_lst (pa_cons pe_str (pa_cons pe_str pa_nil))) (C8.pe_c c_law_take hr (by omega) rfl (pa_cons (pv 0) (pa_cons pe_int pa_nil))) (fun _ _ => rfl)) (pa_cons (pe_ix ix_list (pv 10) pe_int (fun _ _ => rfl)) (pa_cons (pe_ix ix_list (pv 10) pe_int (fun _ _ => rfl)) pa_nil))))))))))))))
theorem ok_law_inner {f : Addr} {fd : FuncData}  (F : Fun K "_law_inner" "_law_inner" s__law_inner f fd) (T : Txt K w mg dP es n0 cChk cRms cHan)   : FnOk P w K mg base C8.CX0 (0 + 1) f fd ["_law_part_here"] (spInner K) := by
  refine F.ok sc__law_inner (fun vs H Q E h => by first | (obtain ⟨_, rfl, _⟩ := h; rfl) | (obtain ⟨_, _, rfl, _⟩ := h; rfl) | (obtain ⟨_, _, _, rfl, _⟩ := h; rfl) | (obtain ⟨_, _, _, _, rfl, _⟩ := h; rfl) | (obtain ⟨_, _, _, _, _, rfl, _⟩ := h; rfl) | (obtain ⟨_, _, _, _, _, _, rfl, _⟩ := h; rfl) | (obtain ⟨_, _, _, _, _, _, _, rfl, _⟩ := h; rfl) | (obtain ⟨_, _, _, _, _, _, _, _, rfl, _⟩ := h; rfl) | (obtain ⟨_, _, _, _, _, _, _, _, _, rfl, _⟩ := h; rfl) | (obtain ⟨_, _, _, _, _, _, _, _, _, _, rfl, _⟩ := h; rfl) | (obtain ⟨_, _, _, _, _, _, _, _, _, _, _, rfl, _⟩ := h; rfl) | (obtain ⟨_, _, _, _, _, _, _, _, _, _, _, _, rfl, _⟩ := h; rfl) | (obtain ⟨_, _, _, _, _, _, _, _, _, _, _, _, _, rfl, _⟩ := h; rfl) | (obtain ⟨_, _, _, _, _, _, _, _, _, _, _, _, _, _, rfl, _⟩ := h; rfl) | (obtain ⟨_, _, _, _, _, _, _, _, _, _, _, _, _, _, _, rfl, _⟩ := h; rfl) | (obtain ⟨_, _, _, _, _, _, _, _, _, _, _, _, _, _, _, _, rfl, _⟩ := h; rfl)) (fun cdv A outer s H vs Q E hr h => ⟨t_linner K, ?_, pure_linner vs H Q E h⟩)
  have hu := hu_of hr
  exact (pss_cons (ps_asg (pe_ix ix_tup (pv 0) pe_int (fun _ _ => rfl)) (pg_name (i := 1) sc__law_inner.nd rfl (Or.inl rfl)))
    (pss_cons (ps_if (pt_cmpR op_in_seq (pv 1) (pe_tup (pa_cons pe_str (pa_cons pe_str (pa_cons pe_str pa_nil)))) (by rfl)) (pss_one (ps_ret (pe_callTy call_list_of (by rfl) T.b_list (by decide +kernel) (pa_cons (pe_slice sl_tup (pv 0) (po_some pe_int) po_none) pa_nil)))) pss_nil)
    (pss_cons (ps_if (pt_cmpR op_in_seq (pv 1) (pe_tup (pa_cons pe_str (pa_cons pe_str pa_nil))) (by rfl)) (pss_one (ps_ret (pe_callTy call_list_of (by rfl) T.b_list (by decide +kernel) (pa_cons (pe_slice sl_tup (pv 0) (po_some (pe_ix ix_list (pe_lst (pa_cons pe_int (pa_cons pe_int pa_nil))) (pe_callTy call_int1 (by rfl) T.b_int (by decide +kernel) (pa_cons (pe_cmpR op_eq (pv 1) pe_str (nomark _)) pa_nil)) (fun _ _ => rfl))) po_none) pa_nil)))) pss_nil)
    (pss_cons (ps_if (pt_cmpR op_eq (pv 1) pe_str (nomark _)) (pss_one (ps_ret (pe_callTy call_list_of (by rfl) T.b_list (by decide +kernel) (pa_cons (pe_ix ix_tup (pv 0) pe_int (fun _ _ => rfl)) pa_nil)))) pss_nil)
    (pss_one (ps_ret (pe_op op_rep (pe_lst (pa_cons (pe_ix ix_tup (pv 0) pe_int (fun _ _ => rfl)) pa_nil)) (pe_callTy call_int1 (by rfl) T.b_int (by decide +kernel) (pa_cons (pe_cmpR op_eq (pv 1) pe_str (nomark _)) pa_nil)))))))))
theorem ok_law_size {f : Addr} {fd : FuncData} {n : Nat} (F : Fun K "_law_size" "_law_size" s__law_size f fd) (T : Txt K w mg dP es n0 cChk cRms cHan)  (c_law_size : C8.Cal P w K mg base (n + 1) "_law_size" (spSize K n) []) (c_law_inner : C8.Cal P w K mg base (1) "_law_inner" (spInner K) []) : FnOk P w K mg base C8.CX0 ((n + 1) + 1) f fd ["_law_part_here"] (spSize K (n + 1)) := by
  refine F.ok sc__law_size (fun vs H Q E h => by first | (obtain ⟨_, rfl, _⟩ := h; rfl) | (obtain ⟨_, _, rfl, _⟩ := h; rfl) | (obtain ⟨_, _, _, rfl, _⟩ := h; rfl) | (obtain ⟨_, _, _, _, rfl, _⟩ := h; rfl) | (obtain ⟨_, _, _, _, _, rfl, _⟩ := h; rfl) | (obtain ⟨_, _, _, _, _, _, rfl, _⟩ := h; rfl) | (obtain ⟨_, _, _, _, _, _, _, rfl, _⟩ := h; rfl) | (obtain ⟨_, _, _, _, _, _, _, _, rfl, _⟩ := h; rfl) | (obtain ⟨_, _, _, _, _, _, _, _, _, rfl, _⟩ := h; rfl) | (obtain ⟨_, _, _, _, _, _, _, _, _, _, rfl, _⟩ := h; rfl) | (obtain ⟨_, _, _, _, _, _, _, _, _, _, _, rfl, _⟩ := h; rfl) | (obtain ⟨_, _, _, _, _, _, _, _, _, _, _, _, rfl, _⟩ := h; rfl) | (obtain ⟨_, _, _, _, _, _, _, _, _, _, _, _, _, rfl, _⟩ := h; rfl) | (obtain ⟨_, _, _, _, _, _, _, _, _, _, _, _, _, _, rfl, _⟩ := h; rfl) | (obtain ⟨_, _, _, _, _, _, _, _, _, _, _, _, _, _, _, rfl, _⟩ := h; rfl) | (obtain ⟨_, _, _, _, _, _, _, _, _, _, _, _, _, _, _, _, rfl, _⟩ := h; rfl)) (fun cdv A outer s H vs Q E hr h => ⟨t_size K n, ?_, pure_size vs H Q E h⟩)
  have hu := hu_of hr
  exact (pss_one (ps_ret (pe_op op_add pe_int (pe_callB (cr_sum rfl) (by rfl) T.b_sum (by decide +kernel) (pa_cons (pe_lc (own := [("_law_one", 1)]) (g := (gName 1)) (tt := tYes) (te := (tCall (spSize K n) [] C8.E0 (tCons (tVar 1) tNil))) rfl sc__law_size.nd (pi_list (C8.pe_c c_law_inner hr (by omega) rfl (pa_cons (pv 0) pa_nil))) (blkOk_by (N := ["_law_part_here", "_law_one"]) (sc := defScope s__law_size) (by decide +kernel)) (fun _ _ _ _ _ => (pg_name (i := 1) sc__law_size.nd rfl (Or.inl rfl))) (fun _ _ _ _ _ => pts_nil) (fun _ _ _ _ _ => (C8.pe_c c_law_size hr (by omega) rfl (pa_cons (pv 1) pa_nil)))) pa_nil)))))
theorem ok_law_program {f : Addr} {fd : FuncData}  (F : Fun K "_law_program" "_law_program" s__law_program f fd) (T : Txt K w mg dP es n0 cChk cRms cHan)  (c_law_take : C8.Cal P w K mg base (1) "_law_take" spTake []) (c_law_part : C8.Cal P w K mg base (17) "_law_part" (spPart K 7) []) (c_law_size : C8.Cal P w K mg base (21) "_law_size" (spSize K 20) []) : FnOk P w K mg base C8.CX0 (23 + 1) f fd ["_law_box", "_law_deep"] (spProgram K) := by
  refine F.ok sc__law_program (fun vs H Q E h => by first | (obtain ⟨_, rfl, _⟩ := h; rfl) | (obtain ⟨_, _, rfl, _⟩ := h; rfl) | (obtain ⟨_, _, _, rfl, _⟩ := h; rfl) | (obtain ⟨_, _, _, _, rfl, _⟩ := h; rfl) | (obtain ⟨_, _, _, _, _, rfl, _⟩ := h; rfl) | (obtain ⟨_, _, _, _, _, _, rfl, _⟩ := h; rfl) | (obtain ⟨_, _, _, _, _, _, _, rfl, _⟩ := h; rfl) | (obtain ⟨_, _, _, _, _, _, _, _, rfl, _⟩ := h; rfl) | (obtain ⟨_, _, _, _, _, _, _, _, _, rfl, _⟩ := h; rfl) | (obtain ⟨_, _, _, _, _, _, _, _, _, _, rfl, _⟩ := h; rfl) | (obtain ⟨_, _, _, _, _, _, _, _, _, _, _, rfl, _⟩ := h; rfl) | (obtain ⟨_, _, _, _, _, _, _, _, _, _, _, _, rfl, _⟩ := h; rfl) | (obtain ⟨_, _, _, _, _, _, _, _, _, _, _, _, _, rfl, _⟩ := h; rfl) | (obtain ⟨_, _, _, _, _, _, _, _, _, _, _, _, _, _, rfl, _⟩ := h; rfl) | (obtain ⟨_, _, _, _, _, _, _, _, _, _, _, _, _, _, _, rfl, _⟩ := h; rfl) | (obtain ⟨_, _, _, _, _, _, _, _, _, _, _, _, _, _, _, _, rfl, _⟩ := h; rfl)) (fun cdv A outer s H vs Q E hr h => ⟨t_program K, ?_, pure_program vs H Q E h⟩)
  have hu := hu_of hr
  exact (pss_cons (ps_asg (pe_lst (pa_cons (pe_lst (pa_cons pe_str (pa_cons pe_str (pa_cons pe_str pa_nil)))) (pa_cons (pe_lst (pa_cons pe_str (pa_cons pe_str (pa_cons pe_str pa_nil)))) (pa_cons (pe_lst (pa_cons pe_str (pa_cons pe_str (pa_cons pe_str pa_nil)))) (pa_cons (pe_lst (pa_cons pe_str (pa_cons pe_str (pa_cons pe_str (pa_cons pe_str (pa_cons pe_str pa_nil)))))) pa_nil))))) (pg_name (i := 2) sc__law_program.nd rfl (Or.inl rfl)))
    (pss_cons (ps_asg (pe_ix ix_list (pv 2) (C8.pe_c c_law_take hr (by omega) rfl (pa_cons (pv 0) (pa_cons pe_int pa_nil))) (fun _ _ => rfl)) (pg_name (i := 3) sc__law_program.nd rfl (Or.inl rfl)))
    (pss_cons (ps_asg (pe_slice sl_list (pv 3) po_none (po_some (C8.pe_c c_law_take hr (by omega) rfl (pa_cons (pv 0) (pa_cons pe_int pa_nil))))) (pg_name (i := 4) sc__law_program.nd rfl (Or.inl rfl)))
    (pss_cons (ps_asg (C8.pe_c c_law_part hr (by omega) rfl (pa_cons (pv 0) (pa_cons (pv 1) (pa_cons (pv 4) (pa_cons (pe_lst pa_nil) (pa_cons (pv 3) pa_nil)))))) (pg_name (i := 5) sc__law_program.nd rfl (Or.inl rfl)))
    (pss_cons (ps_if (pt_cmpR op_eq (C8.pe_c c_law_take hr (by omega) rfl (pa_cons (pv 0) (pa_cons pe_int pa_nil))) pe_int (nomark _)) (pss_one (ps_asg (pe_tup (pa_cons pe_str (pa_cons (pv 5) (pa_cons (C8.pe_c c_law_part hr (by omega) rfl (pa_cons (pv 0) (pa_cons (pv 1) (pa_cons (pv 4) (pa_cons (pe_lst pa_nil) (pa_cons (pv 3) pa_nil)))))) pa_nil)))) (pg_name (i := 5) sc__law_program.nd rfl (Or.inl rfl)))) pss_nil)
    (pss_one (ps_ret (pe_tup (pa_cons (pe_callTy call_tuple_of (by rfl) T.b_tuple (by decide +kernel) (pa_cons (pv 4) pa_nil)) (pa_cons (pe_ifExp (pt_cmpR op_lt (C8.pe_c c_law_size hr (by omega) rfl (pa_cons (pv 5) pa_nil)) pe_int (nomark _)) (pv 5) (pe_tup (pa_cons pe_str (pa_cons (pe_tup (pa_cons pe_str (pa_cons pe_int pa_nil))) pa_nil)))) pa_nil))))))))))
theorem ok_law_numbers {f : Addr} {fd : FuncData}  (F : Fun K "_law_numbers" "_law_numbers" s__law_numbers f fd) (T : Txt K w mg dP es n0 cChk cRms cHan)  (c_law_take : C8.Cal P w K mg base (1) "_law_take" spTake []) : FnOk P w K mg base C8.CX0 (1 + 1) f fd ["_law_box", "_law_program_here"] (spNumbers K) := by
  refine F.ok sc__law_numbers (fun vs H Q E h => by first | (obtain ⟨_, rfl, _⟩ := h; rfl) | (obtain ⟨_, _, rfl, _⟩ := h; rfl) | (obtain ⟨_, _, _, rfl, _⟩ := h; rfl) | (obtain ⟨_, _, _, _, rfl, _⟩ := h; rfl) | (obtain ⟨_, _, _, _, _, rfl, _⟩ := h; rfl) | (obtain ⟨_, _, _, _, _, _, rfl, _⟩ := h; rfl) | (obtain ⟨_, _, _, _, _, _, _, rfl, _⟩ := h; rfl) | (obtain ⟨_, _, _, _, _, _, _, _, rfl, _⟩ := h; rfl) | (obtain ⟨_, _, _, _, _, _, _, _, _, rfl, _⟩ := h; rfl) | (obtain ⟨_, _, _, _, _, _, _, _, _, _, rfl, _⟩ := h; rfl) | (obtain ⟨_, _, _, _, _, _, _, _, _, _, _, rfl, _⟩ := h; rfl) | (obtain ⟨_, _, _, _, _, _, _, _, _, _, _, _, rfl, _⟩ := h; rfl) | (obtain ⟨_, _, _, _, _, _, _, _, _, _, _, _, _, rfl, _⟩ := h; rfl) | (obtain ⟨_, _, _, _, _, _, _, _, _, _, _, _, _, _, rfl, _⟩ := h; rfl) | (obtain ⟨_, _, _, _, _, _, _, _, _, _, _, _, _, _, _, rfl, _⟩ := h; rfl) | (obtain ⟨_, _, _, _, _, _, _, _, _, _, _, _, _, _, _, _, rfl, _⟩ := h; rfl)) (fun cdv A outer s H vs Q E hr h => ⟨t_numbers K, ?_, pure_numbers vs H Q E h⟩)
  have hu := hu_of hr
  exact (pss_one (ps_ret (pe_callTy call_tuple_of (by rfl) T.b_tuple (by decide +kernel) (pa_cons (pe_lc (own := [("_law_name", 2)]) (g := (gName 2)) (tt := tYes) (te := (tCall spTake [] C8.E0 (tCons (tVar 0) (tCons (tOp (rIxL K) (tLst (tCons (tC (.int 4)) (tCons (tC (.int 100)) tNil))) (tCB rInt1 (tCons (tOp rEq (tCall spTake [] C8.E0 (tCons (tVar 0) (tCons (tC (.int 3)) tNil))) (tC (.int 1))) tNil))) tNil)))) rfl sc__law_numbers.nd (pi_tup (pe_ix ix_tup (pv 1) pe_int (fun _ _ => rfl))) (blkOk_by (N := ["_law_box", "_law_program_here", "_law_name"]) (sc := defScope s__law_numbers) (by decide +kernel)) (fun _ _ _ _ _ => (pg_name (i := 2) sc__law_numbers.nd rfl (Or.inl rfl))) (fun _ _ _ _ _ => pts_nil) (fun _ _ _ _ _ => (C8.pe_c c_law_take hr (by omega) rfl (pa_cons (pv 0) (pa_cons (pe_ix ix_list (pe_lst (pa_cons pe_int (pa_cons pe_int pa_nil))) (pe_callTy call_int1 (by rfl) T.b_int (by decide +kernel) (pa_cons (pe_cmpR op_eq (C8.pe_c c_law_take hr (by omega) rfl (pa_cons (pv 0) (pa_cons pe_int pa_nil))) pe_int (nomark _)) pa_nil)) (fun _ _ => rfl)) pa_nil))))) pa_nil))))
theorem ok_law_alike {f : Addr} {fd : FuncData} {n : Nat} (F : Fun K "_law_alike" "_law_alike" s__law_alike f fd) (T : Txt K w mg dP es n0 cChk cRms cHan)  (c_law_alike : C8.Cal P w K mg base (n) "_law_alike" (spAlike K n) []) : FnOk P w K mg base C8.CX0 (n + 1) f fd ["_law_found", "_law_due"] (spAlike K (n + 1)) := by
  refine F.ok sc__law_alike (fun vs H Q E h => by first | (obtain ⟨_, rfl, _⟩ := h; rfl) | (obtain ⟨_, _, rfl, _⟩ := h; rfl) | (obtain ⟨_, _, _, rfl, _⟩ := h; rfl) | (obtain ⟨_, _, _, _, rfl, _⟩ := h; rfl) | (obtain ⟨_, _, _, _, _, rfl, _⟩ := h; rfl) | (obtain ⟨_, _, _, _, _, _, rfl, _⟩ := h; rfl) | (obtain ⟨_, _, _, _, _, _, _, rfl, _⟩ := h; rfl) | (obtain ⟨_, _, _, _, _, _, _, _, rfl, _⟩ := h; rfl) | (obtain ⟨_, _, _, _, _, _, _, _, _, rfl, _⟩ := h; rfl) | (obtain ⟨_, _, _, _, _, _, _, _, _, _, rfl, _⟩ := h; rfl) | (obtain ⟨_, _, _, _, _, _, _, _, _, _, _, rfl, _⟩ := h; rfl) | (obtain ⟨_, _, _, _, _, _, _, _, _, _, _, _, rfl, _⟩ := h; rfl) | (obtain ⟨_, _, _, _, _, _, _, _, _, _, _, _, _, rfl, _⟩ := h; rfl) | (obtain ⟨_, _, _, _, _, _, _, _, _, _, _, _, _, _, rfl, _⟩ := h; rfl) | (obtain ⟨_, _, _, _, _, _, _, _, _, _, _, _, _, _, _, rfl, _⟩ := h; rfl) | (obtain ⟨_, _, _, _, _, _, _, _, _, _, _, _, _, _, _, _, rfl, _⟩ := h; rfl)) (fun cdv A outer s H vs Q E hr h => ⟨t_alike K n, ?_, pure_alike vs H Q E h⟩)
  have hu := hu_of hr
  exact (pss_cons (ps_if (pt_cmpR op_isN1 (pv 1) pe_non (nomark _)) (pss_one (ps_ret (pe_cmpR op_isN1 (pv 0) pe_non (nomark _)))) pss_nil)
    (pss_cons (ps_if (pt_val (pe_callB call_isi (by rfl) T.b_isinstance (by decide +kernel) (pa_cons (pv 1) (pa_cons (pe_bltn (v := .ty "bool") (by rfl) T.b_bool (by decide +kernel) rfl) pa_nil))) (by intro _; rfl)) (pss_one (ps_ret (pe_and (pe_callB call_isi (by rfl) T.b_isinstance (by decide +kernel) (pa_cons (pv 0) (pa_cons (pe_bltn (v := .ty "bool") (by rfl) T.b_bool (by decide +kernel) rfl) pa_nil))) (pe_one (pe_cmpR op_eq (pv 0) (pv 1) (nomark _)))))) pss_nil)
    (pss_cons (ps_if (pt_val (pe_callB call_isi (by rfl) T.b_isinstance (by decide +kernel) (pa_cons (pv 1) (pa_cons (pe_bltn (v := .ty "int") (by rfl) T.b_int (by decide +kernel) rfl) pa_nil))) (by intro _; rfl)) (pss_one (ps_ret (pe_and (pe_callB call_isi (by rfl) T.b_isinstance (by decide +kernel) (pa_cons (pv 0) (pa_cons (pe_bltn (v := .ty "int") (by rfl) T.b_int (by decide +kernel) rfl) pa_nil))) (pe_and (pe_not (pe_callB call_isi (by rfl) T.b_isinstance (by decide +kernel) (pa_cons (pv 0) (pa_cons (pe_bltn (v := .ty "bool") (by rfl) T.b_bool (by decide +kernel) rfl) pa_nil)))) (pe_one (pe_cmpR op_eq (pv 0) (pv 1) (nomark _))))))) pss_nil)
    (pss_cons (ps_if (pt_val (pe_callB call_isi (by rfl) T.b_isinstance (by decide +kernel) (pa_cons (pv 1) (pa_cons (pe_bltn (v := .ty "str") (by rfl) T.b_str (by decide +kernel) rfl) pa_nil))) (by intro _; rfl)) (pss_one (ps_ret (pe_and (pe_callB call_isi (by rfl) T.b_isinstance (by decide +kernel) (pa_cons (pv 0) (pa_cons (pe_bltn (v := .ty "str") (by rfl) T.b_str (by decide +kernel) rfl) pa_nil))) (pe_one (pe_cmpR op_eq (pv 0) (pv 1) (nomark _)))))) pss_nil)
    (pss_cons (ps_if (PW.pt (pw_or (pt_cmpR op_ne (pe_callB call_isi (by rfl) T.b_isinstance (by decide +kernel) (pa_cons (pv 1) (pa_cons (pe_bltn (v := .ty "tuple") (by rfl) T.b_tuple (by decide +kernel) rfl) pa_nil))) (pe_callB call_isi (by rfl) T.b_isinstance (by decide +kernel) (pa_cons (pv 0) (pa_cons (pe_bltn (v := .ty "tuple") (by rfl) T.b_tuple (by decide +kernel) rfl) pa_nil))) (nomark _)) (pw_or1 (pt_cmpR op_ne (pe_callB call_isi (by rfl) T.b_isinstance (by decide +kernel) (pa_cons (pv 1) (pa_cons (pe_bltn (v := .ty "list") (by rfl) T.b_list (by decide +kernel) rfl) pa_nil))) (pe_callB call_isi (by rfl) T.b_isinstance (by decide +kernel) (pa_cons (pv 0) (pa_cons (pe_bltn (v := .ty "list") (by rfl) T.b_list (by decide +kernel) rfl) pa_nil))) (nomark _))))) (pss_one (ps_ret pe_bl)) pss_nil)
    (pss_cons (ps_if (pt_cmpR op_ne (pe_callB call_len_seq (by rfl) T.b_len (by decide +kernel) (pa_cons (pv 0) pa_nil)) (pe_callB call_len_seq (by rfl) T.b_len (by decide +kernel) (pa_cons (pv 1) pa_nil)) (nomark _)) (pss_one (ps_ret pe_bl)) pss_nil)
    (pss_cons (ps_for PassesOwn.never rfl (pi_range1 rfl T.b_range (pa_cons (pe_callB call_len_seq (by rfl) T.b_len (by decide +kernel) (pa_cons (pv 1) pa_nil)) pa_nil)) (pg_name (i := 2) sc__law_alike.nd rfl (Or.inl rfl)) (pss_one (ps_if (pt_not (pt_val (C8.pe_c c_law_alike hr (by omega) rfl (pa_cons (pe_ix ix_seq (pv 0) (pv 2) (fun _ _ => rfl)) (pa_cons (pe_ix ix_seq (pv 1) (pv 2) (fun _ _ => rfl)) pa_nil))) (by intro _; rfl))) (pss_one (ps_ret pe_bl)) pss_nil)))
    (pss_one (ps_ret pe_bl)))))))))
theorem ok_is_word {f : Addr} {fd : FuncData}  (F : Fun K "is_word" "is_word" s_is_word f fd) (T : Txt K w mg dP es n0 cChk cRms cHan)   : FnOk P w K mg base C8.CX0 (0 + 1) f fd ["word"] (spIsWord K) := by
  refine F.ok sc_is_word (fun vs H Q E h => by first | (obtain ⟨_, rfl, _⟩ := h; rfl) | (obtain ⟨_, _, rfl, _⟩ := h; rfl) | (obtain ⟨_, _, _, rfl, _⟩ := h; rfl) | (obtain ⟨_, _, _, _, rfl, _⟩ := h; rfl) | (obtain ⟨_, _, _, _, _, rfl, _⟩ := h; rfl) | (obtain ⟨_, _, _, _, _, _, rfl, _⟩ := h; rfl) | (obtain ⟨_, _, _, _, _, _, _, rfl, _⟩ := h; rfl) | (obtain ⟨_, _, _, _, _, _, _, _, rfl, _⟩ := h; rfl) | (obtain ⟨_, _, _, _, _, _, _, _, _, rfl, _⟩ := h; rfl) | (obtain ⟨_, _, _, _, _, _, _, _, _, _, rfl, _⟩ := h; rfl) | (obtain ⟨_, _, _, _, _, _, _, _, _, _, _, rfl, _⟩ := h; rfl) | (obtain ⟨_, _, _, _, _, _, _, _, _, _, _, _, rfl, _⟩ := h; rfl) | (obtain ⟨_, _, _, _, _, _, _, _, _, _, _, _, _, rfl, _⟩ := h; rfl) | (obtain ⟨_, _, _, _, _, _, _, _, _, _, _, _, _, _, rfl, _⟩ := h; rfl) | (obtain ⟨_, _, _, _, _, _, _, _, _, _, _, _, _, _, _, rfl, _⟩ := h; rfl) | (obtain ⟨_, _, _, _, _, _, _, _, _, _, _, _, _, _, _, _, rfl, _⟩ := h; rfl)) (fun cdv A outer s H vs Q E hr h => ⟨t_is_word K, ?_, pure_is_word vs H Q E h⟩)
  have hu := hu_of hr
  exact (pss_one (ps_ret (pe_and (pe_chain op_le op_le pe_int (pe_callB call_len_str (by rfl) T.b_len (by decide +kernel) (pa_cons (pv 0) pa_nil)) (C8.pe_gc (by rfl) T.g_MOST_SIGNS)) (pe_one (pe_cmpR (op_eqD hr.units) (pe_lc (own := [("sign", 1)]) (g := (gName 1)) (tt := (tTest (tOp rNotInS (tVar 1) (tC (.str "abcdefghijklmnopqrstuvwxyz"))))) (te := (tVar 1)) rfl sc_is_word.nd (pi_str (pv 0)) (blkOk_by (N := ["word", "sign"]) (sc := defScope s_is_word) (by decide +kernel)) (fun _ _ _ _ _ => (pg_name (i := 1) sc_is_word.nd rfl (Or.inl rfl))) (fun _ _ _ _ _ => (pts_one (pt_cmpR op_notInS (pv 1) (C8.pe_gc (by rfl) T.g_SMALL) (by rfl)))) (fun _ _ _ _ _ => (pv 1))) (pe_lst pa_nil) (nomark _))))))
theorem ok_are_words {f : Addr} {fd : FuncData}  (F : Fun K "are_words" "are_words" s_are_words f fd) (T : Txt K w mg dP es n0 cChk cRms cHan)  (c_is_word : C8.Cal P w K mg base (1) "is_word" (spIsWord K) []) : FnOk P w K mg base C8.CX0 (1 + 1) f fd ["words", "most"] (spAreWords K) := by
  refine F.ok sc_are_words (fun vs H Q E h => by first | (obtain ⟨_, rfl, _⟩ := h; rfl) | (obtain ⟨_, _, rfl, _⟩ := h; rfl) | (obtain ⟨_, _, _, rfl, _⟩ := h; rfl) | (obtain ⟨_, _, _, _, rfl, _⟩ := h; rfl) | (obtain ⟨_, _, _, _, _, rfl, _⟩ := h; rfl) | (obtain ⟨_, _, _, _, _, _, rfl, _⟩ := h; rfl) | (obtain ⟨_, _, _, _, _, _, _, rfl, _⟩ := h; rfl) | (obtain ⟨_, _, _, _, _, _, _, _, rfl, _⟩ := h; rfl) | (obtain ⟨_, _, _, _, _, _, _, _, _, rfl, _⟩ := h; rfl) | (obtain ⟨_, _, _, _, _, _, _, _, _, _, rfl, _⟩ := h; rfl) | (obtain ⟨_, _, _, _, _, _, _, _, _, _, _, rfl, _⟩ := h; rfl) | (obtain ⟨_, _, _, _, _, _, _, _, _, _, _, _, rfl, _⟩ := h; rfl) | (obtain ⟨_, _, _, _, _, _, _, _, _, _, _, _, _, rfl, _⟩ := h; rfl) | (obtain ⟨_, _, _, _, _, _, _, _, _, _, _, _, _, _, rfl, _⟩ := h; rfl) | (obtain ⟨_, _, _, _, _, _, _, _, _, _, _, _, _, _, _, rfl, _⟩ := h; rfl) | (obtain ⟨_, _, _, _, _, _, _, _, _, _, _, _, _, _, _, _, rfl, _⟩ := h; rfl)) (fun cdv A outer s H vs Q E hr h => ⟨t_are_words K P w, ?_, pure_are_words vs H Q E h⟩)
  have hu := hu_of hr
  exact (pss_one (ps_ret (pe_and (pe_cmpR op_le (pe_callB call_len_seq (by rfl) T.b_len (by decide +kernel) (pa_cons (pv 0) pa_nil)) (pv 1) (nomark _)) (pe_and (pe_cmpR op_eq (pe_callB BNS.cr_lenSetS (by rfl) T.b_len (by decide +kernel) (pa_cons (pe_callTy (BNS.cr_setS rfl) (by rfl) T.b_set (by decide +kernel) (pa_cons (pv 0) pa_nil)) pa_nil)) (pe_callB call_len_seq (by rfl) T.b_len (by decide +kernel) (pa_cons (pv 0) pa_nil)) (nomark _)) (pe_one (pe_callB (cr_all rfl) (by rfl) T.b_all (by decide +kernel) (pa_cons (pe_lc (own := [("word", 2)]) (g := (gName 2)) (tt := tYes) (te := (tCall (spIsWord K) [] C8.E0 (tCons (tVar 2) tNil))) rfl sc_are_words.nd (pi_tup (pv 0)) (blkOk_by (N := ["words", "most", "word"]) (sc := defScope s_are_words) (by decide +kernel)) (fun _ _ _ _ _ => (pg_name (i := 2) sc_are_words.nd rfl (Or.inl rfl))) (fun _ _ _ _ _ => pts_nil) (fun _ _ _ _ _ => (C8.pe_c c_is_word hr (by omega) rfl (pa_cons (pv 2) pa_nil)))) pa_nil)))))))
theorem ok_inner_of {f : Addr} {fd : FuncData}  (F : Fun K "inner_of" "inner_of" s_inner_of f fd) (T : Txt K w mg dP es n0 cChk cRms cHan)   : FnOk P w K mg base C8.CX0 (0 + 1) f fd ["part"] (spInner K) := by
  refine F.ok sc_inner_of (fun vs H Q E h => by first | (obtain ⟨_, rfl, _⟩ := h; rfl) | (obtain ⟨_, _, rfl, _⟩ := h; rfl) | (obtain ⟨_, _, _, rfl, _⟩ := h; rfl) | (obtain ⟨_, _, _, _, rfl, _⟩ := h; rfl) | (obtain ⟨_, _, _, _, _, rfl, _⟩ := h; rfl) | (obtain ⟨_, _, _, _, _, _, rfl, _⟩ := h; rfl) | (obtain ⟨_, _, _, _, _, _, _, rfl, _⟩ := h; rfl) | (obtain ⟨_, _, _, _, _, _, _, _, rfl, _⟩ := h; rfl) | (obtain ⟨_, _, _, _, _, _, _, _, _, rfl, _⟩ := h; rfl) | (obtain ⟨_, _, _, _, _, _, _, _, _, _, rfl, _⟩ := h; rfl) | (obtain ⟨_, _, _, _, _, _, _, _, _, _, _, rfl, _⟩ := h; rfl) | (obtain ⟨_, _, _, _, _, _, _, _, _, _, _, _, rfl, _⟩ := h; rfl) | (obtain ⟨_, _, _, _, _, _, _, _, _, _, _, _, _, rfl, _⟩ := h; rfl) | (obtain ⟨_, _, _, _, _, _, _, _, _, _, _, _, _, _, rfl, _⟩ := h; rfl) | (obtain ⟨_, _, _, _, _, _, _, _, _, _, _, _, _, _, _, rfl, _⟩ := h; rfl) | (obtain ⟨_, _, _, _, _, _, _, _, _, _, _, _, _, _, _, _, rfl, _⟩ := h; rfl)) (fun cdv A outer s H vs Q E hr h => ⟨t_pinner K, ?_, pure_pinner vs H Q E h⟩)
  have hu := hu_of hr
  exact (pss_cons (ps_asg (pe_ix ix_tup (pv 0) pe_int (fun _ _ => rfl)) (pg_name (i := 1) sc_inner_of.nd rfl (Or.inl rfl)))
    (pss_cons (ps_if (pt_cmpR op_in_seq (pv 1) (pe_tup (pa_cons pe_str (pa_cons pe_str (pa_cons pe_str pa_nil)))) (by rfl)) (pss_one (ps_ret (pe_callTy call_list_of (by rfl) T.b_list (by decide +kernel) (pa_cons (pe_slice sl_tup (pv 0) (po_some pe_int) po_none) pa_nil)))) pss_nil)
    (pss_cons (ps_if (pt_cmpR op_eq (pv 1) pe_str (nomark _)) (pss_one (ps_ret (pe_lst (pa_cons (pe_ix ix_tup (pv 0) pe_int (fun _ _ => rfl)) pa_nil)))) pss_nil)
    (pss_cons (ps_if (pt_cmpR op_eq (pv 1) pe_str (nomark _)) (pss_one (ps_ret (pe_callTy call_list_of (by rfl) T.b_list (by decide +kernel) (pa_cons (pe_slice sl_tup (pv 0) (po_some pe_int) po_none) pa_nil)))) pss_nil)
    (pss_cons (ps_if (pt_cmpR op_eq (pv 1) pe_str (nomark _)) (pss_one (ps_ret (pe_callTy call_list_of (by rfl) T.b_list (by decide +kernel) (pa_cons (pe_slice sl_tup (pv 0) (po_some pe_int) po_none) pa_nil)))) pss_nil)
    (pss_one (ps_ret (pe_ifExp (pt_cmpR op_eq (pv 1) pe_str (nomark _)) (pe_callTy call_list_of (by rfl) T.b_list (by decide +kernel) (pa_cons (pe_ix ix_tup (pv 0) pe_int (fun _ _ => rfl)) pa_nil)) (pe_lst pa_nil)))))))))
theorem ok_Check_must {f : Addr} {fd : FuncData}  (F : Fun K "must" "Check.must" s_Check_must f fd) (T : Txt K w mg dP es n0 cChk cRms cHan)   : FnOk P w K mg base C8.CX0 (0 + 1) f fd ["self", "good", "place"] spMust := by
  refine F.ok sc_Check_must (fun vs H Q E h => by first | (obtain ⟨_, rfl, _⟩ := h; rfl) | (obtain ⟨_, _, rfl, _⟩ := h; rfl) | (obtain ⟨_, _, _, rfl, _⟩ := h; rfl) | (obtain ⟨_, _, _, _, rfl, _⟩ := h; rfl) | (obtain ⟨_, _, _, _, _, rfl, _⟩ := h; rfl) | (obtain ⟨_, _, _, _, _, _, rfl, _⟩ := h; rfl) | (obtain ⟨_, _, _, _, _, _, _, rfl, _⟩ := h; rfl) | (obtain ⟨_, _, _, _, _, _, _, _, rfl, _⟩ := h; rfl) | (obtain ⟨_, _, _, _, _, _, _, _, _, rfl, _⟩ := h; rfl) | (obtain ⟨_, _, _, _, _, _, _, _, _, _, rfl, _⟩ := h; rfl) | (obtain ⟨_, _, _, _, _, _, _, _, _, _, _, rfl, _⟩ := h; rfl) | (obtain ⟨_, _, _, _, _, _, _, _, _, _, _, _, rfl, _⟩ := h; rfl) | (obtain ⟨_, _, _, _, _, _, _, _, _, _, _, _, _, rfl, _⟩ := h; rfl) | (obtain ⟨_, _, _, _, _, _, _, _, _, _, _, _, _, _, rfl, _⟩ := h; rfl) | (obtain ⟨_, _, _, _, _, _, _, _, _, _, _, _, _, _, _, rfl, _⟩ := h; rfl) | (obtain ⟨_, _, _, _, _, _, _, _, _, _, _, _, _, _, _, _, rfl, _⟩ := h; rfl)) (fun cdv A outer s H vs Q E hr h => ⟨t_must, ?_, pure_must vs H Q E h⟩)
  have hu := hu_of hr
  exact (pss_one (ps_if (PW.pt (pw_or (pt_not (pt_val (pv 1) (by intro _; rfl))) (pw_or1 (pt_cmpR op_ge (pv 2) (C8.pe_gc (by rfl) T.g_MOST_PARTS) (nomark _))))) (pss_one ps_never) pss_nil))
theorem ok_Check_look {f : Addr} {fd : FuncData} {n : Nat} (F : Fun K "look" "Check.look" s_Check_look f fd) (T : Txt K w mg dP es n0 cChk cRms cHan)  (c_is_word : C8.Cal P w K mg base (1) "is_word" (spIsWord K) []) (c_are_words : C8.Cal P w K mg base (2) "are_words" (spAreWords K) []) (c_inner_of : C8.Cal P w K mg base (1) "inner_of" (spInner K) []) (c_Check_must : C8.Met P w K mg base (1) cChk "must" spMust []) (c_Check_look : C8.Met P w K mg base (n + 2) cChk "look" (spLook K cChk n) []) : FnOk P w K mg base C8.CX0 ((n + 2) + 1) f fd ["self", "part", "names", "funs"] (spLook K cChk (n + 1)) := by
  refine F.ok sc_Check_look (fun vs H Q E h => by first | (obtain ⟨_, rfl, _⟩ := h; rfl) | (obtain ⟨_, _, rfl, _⟩ := h; rfl) | (obtain ⟨_, _, _, rfl, _⟩ := h; rfl) | (obtain ⟨_, _, _, _, rfl, _⟩ := h; rfl) | (obtain ⟨_, _, _, _, _, rfl, _⟩ := h; rfl) | (obtain ⟨_, _, _, _, _, _, rfl, _⟩ := h; rfl) | (obtain ⟨_, _, _, _, _, _, _, rfl, _⟩ := h; rfl) | (obtain ⟨_, _, _, _, _, _, _, _, rfl, _⟩ := h; rfl) | (obtain ⟨_, _, _, _, _, _, _, _, _, rfl, _⟩ := h; rfl) | (obtain ⟨_, _, _, _, _, _, _, _, _, _, rfl, _⟩ := h; rfl) | (obtain ⟨_, _, _, _, _, _, _, _, _, _, _, rfl, _⟩ := h; rfl) | (obtain ⟨_, _, _, _, _, _, _, _, _, _, _, _, rfl, _⟩ := h; rfl) | (obtain ⟨_, _, _, _, _, _, _, _, _, _, _, _, _, rfl, _⟩ := h; rfl) | (obtain ⟨_, _, _, _, _, _, _, _, _, _, _, _, _, _, rfl, _⟩ := h; rfl) | (obtain ⟨_, _, _, _, _, _, _, _, _, _, _, _, _, _, _, rfl, _⟩ := h; rfl) | (obtain ⟨_, _, _, _, _, _, _, _, _, _, _, _, _, _, _, _, rfl, _⟩ := h; rfl)) (fun cdv A outer s H vs Q E hr h => ⟨t_look K w dP cChk n, ?_, pure_look T.chk T.pt vs H Q E h⟩)
  have hu := hu_of hr
  exact (pss_cons (ps_asg (pe_fld (pv 0) rfl) (pg_name (i := 4) sc_Check_look.nd rfl (Or.inl rfl)))
    (pss_cons (ps_fldaug (pv 0) pe_int in_add)
    (pss_cons (ps_asg (pe_ifExp (pt_cmpR (op_neD hr.units) (pv 1) (pe_tup pa_nil) (nomark _)) (pe_ix ix_tup (pv 1) pe_int (fun _ _ => rfl)) pe_str) (pg_name (i := 5) sc_Check_look.nd rfl (Or.inl rfl)))
    (pss_cons (ps_expr (C8.pe_mt c_Check_must hr (by omega) (pv 0) (pa_cons (pe_and (pe_cmpR (op_in_kd T.kd) (pv 5) (C8.pe_gc (by rfl) T.g_PARTS) (by rfl)) (pe_one (pe_cmpR op_eq (pe_callB call_len_seq (by rfl) T.b_len (by decide +kernel) (pa_cons (pv 1) pa_nil)) (pe_ix ix_kdict (C8.pe_gc (by rfl) T.g_PARTS) (pv 5) (fun _ _ => rfl)) (nomark _)))) (pa_cons (pv 4) pa_nil))))
    (pss_one (ps_if (pt_cmpR op_eq (pv 5) pe_str (nomark _)) (pss_one (ps_expr (C8.pe_mt c_Check_must hr (by omega) (pv 0) (pa_cons (pe_chain op_le op_le pe_int (pe_ix ix_tup (pv 1) pe_int (fun _ _ => rfl)) (C8.pe_gc (by rfl) T.g_MOST_NUMBER)) (pa_cons (pv 4) pa_nil))))) (pss_one (ps_if (pt_cmpR op_eq (pv 5) pe_str (nomark _)) (pss_one (ps_expr (C8.pe_mt c_Check_must hr (by omega) (pv 0) (pa_cons (pe_cmpR op_in_seq (pe_ix ix_tup (pv 1) pe_int (fun _ _ => rfl)) (pv 2) (by rfl)) (pa_cons (pv 4) pa_nil))))) (pss_one (ps_if (pt_cmpR op_eq (pv 5) pe_str (nomark _)) (pss_cons (ps_expr (C8.pe_mt c_Check_must hr (by omega) (pv 0) (pa_cons (C8.pe_c c_is_word hr (by omega) rfl (pa_cons (pe_ix ix_tup (pv 1) pe_int (fun _ _ => rfl)) pa_nil)) (pa_cons (pv 4) pa_nil))))
    (pss_cons (ps_expr (C8.pe_mt c_Check_look hr (by omega) (pv 0) (pa_cons (pe_ix ix_tup (pv 1) pe_int (fun _ _ => rfl)) (pa_cons (pv 2) (pa_cons (pv 3) pa_nil)))))
    (pss_one (ps_expr (C8.pe_mt c_Check_look hr (by omega) (pv 0) (pa_cons (pe_ix ix_tup (pv 1) pe_int (fun _ _ => rfl)) (pa_cons (pe_op op_cat (pv 2) (pe_lst (pa_cons (pe_ix ix_tup (pv 1) pe_int (fun _ _ => rfl)) pa_nil))) (pa_cons (pv 3) pa_nil)))))))) (pss_one (ps_if (pt_cmpR op_eq (pv 5) pe_str (nomark _)) (pss_cons (ps_expr (C8.pe_mt c_Check_must hr (by omega) (pv 0) (pa_cons (pe_and (C8.pe_c c_is_word hr (by omega) rfl (pa_cons (pe_ix ix_tup (pv 1) pe_int (fun _ _ => rfl)) pa_nil)) (pe_one (C8.pe_c c_are_words hr (by omega) rfl (pa_cons (pe_ix ix_tup (pv 1) pe_int (fun _ _ => rfl)) (pa_cons (C8.pe_gc (by rfl) T.g_MOST_PARAMS) pa_nil))))) (pa_cons (pv 4) pa_nil))))
    (pss_cons (ps_expr (C8.pe_mt c_Check_look hr (by omega) (pv 0) (pa_cons (pe_ix ix_tup (pv 1) pe_int (fun _ _ => rfl)) (pa_cons (pe_op op_cat (pv 2) (pe_callTy call_list_of (by rfl) T.b_list (by decide +kernel) (pa_cons (pe_ix ix_tup (pv 1) pe_int (fun _ _ => rfl)) pa_nil))) (pa_cons (pv 3) pa_nil)))))
    (pss_cons (ps_asg (pe_callTy call_dictD (by rfl) T.b_dict (by decide +kernel) (pa_cons (pv 3) pa_nil)) (pg_name (i := 6) sc_Check_look.nd rfl (Or.inl rfl)))
    (pss_cons (ps_dput hu (pv 6) (pe_ix ix_tup (pv 1) pe_int (fun _ _ => rfl)) (pe_callB call_len_seq (by rfl) T.b_len (by decide +kernel) (pa_cons (pe_ix ix_tup (pv 1) pe_int (fun _ _ => rfl)) pa_nil)) rfl)
    (pss_one (ps_expr (C8.pe_mt c_Check_look hr (by omega) (pv 0) (pa_cons (pe_ix ix_tup (pv 1) pe_int (fun _ _ => rfl)) (pa_cons (pv 2) (pa_cons (pv 6) pa_nil)))))))))) (pss_cons (ps_if (pt_cmpR op_eq (pv 5) pe_str (nomark _)) (pss_one (ps_expr (C8.pe_mt c_Check_must hr (by omega) (pv 0) (pa_cons (pe_cmpR op_eq (pe_dget2 hu (pv 3) (pe_ix ix_tup (pv 1) pe_int (fun _ _ => rfl)) (pe_un un_neg pe_int) ⟨rfl, rfl, rfl, rfl⟩) (pe_callB call_len_seq (by rfl) T.b_len (by decide +kernel) (pa_cons (pe_ix ix_tup (pv 1) pe_int (fun _ _ => rfl)) pa_nil)) (nomark _)) (pa_cons (pv 4) pa_nil))))) pss_nil)
    (pss_one (ps_for PassesOwn.never rfl (pi_list (C8.pe_c c_inner_of hr (by omega) rfl (pa_cons (pv 1) pa_nil))) (pg_name (i := 7) sc_Check_look.nd rfl (Or.inl rfl)) (pss_one (ps_expr (C8.pe_mt c_Check_look hr (by omega) (pv 0) (pa_cons (pv 7) (pa_cons (pv 2) (pa_cons (pv 3) pa_nil)))))))))))))))))))))
theorem ok_check_program {f : Addr} {fd : FuncData}  (F : Fun K "check_program" "check_program" s_check_program f fd) (T : Txt K w mg dP es n0 cChk cRms cHan)  (c_are_words : C8.Cal P w K mg base (2) "are_words" (spAreWords K) []) (c_Check : C8.Mak P w K mg base (1) "Check" cChk (spChkInit cChk) []) (c_Check_must : C8.Met P w K mg base (1) cChk "must" spMust []) (c_Check_look : C8.Met P w K mg base (22) cChk "look" (spLook K cChk 20) []) : FnOk P w K mg base C8.CX0 (22 + 1) f fd ["program"] (spCheckP K) := by
  refine F.ok sc_check_program (fun vs H Q E h => by first | (obtain ⟨_, rfl, _⟩ := h; rfl) | (obtain ⟨_, _, rfl, _⟩ := h; rfl) | (obtain ⟨_, _, _, rfl, _⟩ := h; rfl) | (obtain ⟨_, _, _, _, rfl, _⟩ := h; rfl) | (obtain ⟨_, _, _, _, _, rfl, _⟩ := h; rfl) | (obtain ⟨_, _, _, _, _, _, rfl, _⟩ := h; rfl) | (obtain ⟨_, _, _, _, _, _, _, rfl, _⟩ := h; rfl) | (obtain ⟨_, _, _, _, _, _, _, _, rfl, _⟩ := h; rfl) | (obtain ⟨_, _, _, _, _, _, _, _, _, rfl, _⟩ := h; rfl) | (obtain ⟨_, _, _, _, _, _, _, _, _, _, rfl, _⟩ := h; rfl) | (obtain ⟨_, _, _, _, _, _, _, _, _, _, _, rfl, _⟩ := h; rfl) | (obtain ⟨_, _, _, _, _, _, _, _, _, _, _, _, rfl, _⟩ := h; rfl) | (obtain ⟨_, _, _, _, _, _, _, _, _, _, _, _, _, rfl, _⟩ := h; rfl) | (obtain ⟨_, _, _, _, _, _, _, _, _, _, _, _, _, _, rfl, _⟩ := h; rfl) | (obtain ⟨_, _, _, _, _, _, _, _, _, _, _, _, _, _, _, rfl, _⟩ := h; rfl) | (obtain ⟨_, _, _, _, _, _, _, _, _, _, _, _, _, _, _, _, rfl, _⟩ := h; rfl)) (fun cdv A outer s H vs Q E hr h => ⟨t_checkP K cChk, ?_, (pure_checkP (es := es) (n0 := n0)) vs H Q E h⟩)
  have hu := hu_of hr
  exact (pss_cons (ps_asg (pv 0) (pg_tup (by rfl) (pgs_cons (pg_name (i := 1) sc_check_program.nd rfl (Or.inl rfl)) (pgs_cons (pg_name (i := 2) sc_check_program.nd rfl (Or.inl rfl)) pgs_nil))))
    (pss_cons (ps_asg (pe_mk0 c_Check hr (by omega) rfl) (pg_name (i := 3) sc_check_program.nd rfl (Or.inl rfl)))
    (pss_cons (ps_expr (C8.pe_mt c_Check_must hr (by omega) (pv 3) (pa_cons (C8.pe_c c_are_words hr (by omega) rfl (pa_cons (pv 1) (pa_cons (C8.pe_gc (by rfl) T.g_MOST_INPUTS) pa_nil))) (pa_cons pe_int pa_nil))))
    (pss_one (ps_expr (C8.pe_mt c_Check_look hr (by omega) (pv 3) (pa_cons (pv 2) (pa_cons (pe_callTy call_list_of (by rfl) T.b_list (by decide +kernel) (pa_cons (pv 1) pa_nil)) (pa_cons pe_dnewK pa_nil)))))))))
theorem ok_check_run {f : Addr} {fd : FuncData}  (F : Fun K "check_run" "check_run" s_check_run f fd) (T : Txt K w mg dP es n0 cChk cRms cHan)  (c_check_program : C8.Cal P w K mg base (23) "check_program" (spCheckP K) []) : FnOk P w K mg base C8.CX0 (23 + 1) f fd ["program", "numbers", "meaning"] (spCheckR K) := by
  refine F.ok sc_check_run (fun vs H Q E h => by first | (obtain ⟨_, rfl, _⟩ := h; rfl) | (obtain ⟨_, _, rfl, _⟩ := h; rfl) | (obtain ⟨_, _, _, rfl, _⟩ := h; rfl) | (obtain ⟨_, _, _, _, rfl, _⟩ := h; rfl) | (obtain ⟨_, _, _, _, _, rfl, _⟩ := h; rfl) | (obtain ⟨_, _, _, _, _, _, rfl, _⟩ := h; rfl) | (obtain ⟨_, _, _, _, _, _, _, rfl, _⟩ := h; rfl) | (obtain ⟨_, _, _, _, _, _, _, _, rfl, _⟩ := h; rfl) | (obtain ⟨_, _, _, _, _, _, _, _, _, rfl, _⟩ := h; rfl) | (obtain ⟨_, _, _, _, _, _, _, _, _, _, rfl, _⟩ := h; rfl) | (obtain ⟨_, _, _, _, _, _, _, _, _, _, _, rfl, _⟩ := h; rfl) | (obtain ⟨_, _, _, _, _, _, _, _, _, _, _, _, rfl, _⟩ := h; rfl) | (obtain ⟨_, _, _, _, _, _, _, _, _, _, _, _, _, rfl, _⟩ := h; rfl) | (obtain ⟨_, _, _, _, _, _, _, _, _, _, _, _, _, _, rfl, _⟩ := h; rfl) | (obtain ⟨_, _, _, _, _, _, _, _, _, _, _, _, _, _, _, rfl, _⟩ := h; rfl) | (obtain ⟨_, _, _, _, _, _, _, _, _, _, _, _, _, _, _, _, rfl, _⟩ := h; rfl)) (fun cdv A outer s H vs Q E hr h => ⟨t_checkR K, ?_, pure_checkR vs H Q E h⟩)
  have hu := hu_of hr
  exact (pss_cons (ps_expr (C8.pe_c c_check_program hr (by omega) rfl (pa_cons (pv 0) pa_nil)))
    (pss_cons (ps_if (PW.pt (pw_or (pt_cmpR op_ne (pe_callB call_len_seq (by rfl) T.b_len (by decide +kernel) (pa_cons (pv 1) pa_nil)) (pe_callB call_len_seq (by rfl) T.b_len (by decide +kernel) (pa_cons (pe_ix ix_tup (pv 0) pe_int (fun _ _ => rfl)) pa_nil)) (nomark _)) (pw_or1 (pt_not (pt_val (pe_callB (cr_all rfl) (by rfl) T.b_all (by decide +kernel) (pa_cons (pe_lc (own := [("number", 3)]) (g := (gName 3)) (tt := tYes) (te := (tChain oLe oLe (tC (.int 0)) (tVar 3) (tC (.int 99)))) rfl sc_check_run.nd (pi_tup (pv 1)) (blkOk_by (N := ["program", "numbers", "meaning", "number"]) (sc := defScope s_check_run) (by decide +kernel)) (fun _ _ _ _ _ => (pg_name (i := 3) sc_check_run.nd rfl (Or.inl rfl))) (fun _ _ _ _ _ => pts_nil) (fun _ _ _ _ _ => (pe_chain op_le op_le pe_int (pv 3) (C8.pe_gc (by rfl) T.g_MOST_NUMBER)))) pa_nil)) (by intro _; rfl)))))) (pss_one ps_never) pss_nil)
    (pss_one (ps_if (pt_cmpR op_notIn_seq (pv 2) (pe_tup (pa_cons (C8.pe_gc (by rfl) T.g_NEAR) (pa_cons (C8.pe_gc (by rfl) T.g_CALLED) pa_nil))) (by rfl)) (pss_one ps_never) pss_nil))))
theorem ok_Rooms_read {f : Addr} {fd : FuncData}  (F : Fun K "read" "Rooms.read" s_Rooms_read f fd) (T : Txt K w mg dP es n0 cChk cRms cHan)   : FnOk P w K mg base C8.CX0 (0 + 1) f fd ["self", "name", "pile"] (spRead K cRms) := by
  refine F.ok sc_Rooms_read (fun vs H Q E h => by first | (obtain ⟨_, rfl, _⟩ := h; rfl) | (obtain ⟨_, _, rfl, _⟩ := h; rfl) | (obtain ⟨_, _, _, rfl, _⟩ := h; rfl) | (obtain ⟨_, _, _, _, rfl, _⟩ := h; rfl) | (obtain ⟨_, _, _, _, _, rfl, _⟩ := h; rfl) | (obtain ⟨_, _, _, _, _, _, rfl, _⟩ := h; rfl) | (obtain ⟨_, _, _, _, _, _, _, rfl, _⟩ := h; rfl) | (obtain ⟨_, _, _, _, _, _, _, _, rfl, _⟩ := h; rfl) | (obtain ⟨_, _, _, _, _, _, _, _, _, rfl, _⟩ := h; rfl) | (obtain ⟨_, _, _, _, _, _, _, _, _, _, rfl, _⟩ := h; rfl) | (obtain ⟨_, _, _, _, _, _, _, _, _, _, _, rfl, _⟩ := h; rfl) | (obtain ⟨_, _, _, _, _, _, _, _, _, _, _, _, rfl, _⟩ := h; rfl) | (obtain ⟨_, _, _, _, _, _, _, _, _, _, _, _, _, rfl, _⟩ := h; rfl) | (obtain ⟨_, _, _, _, _, _, _, _, _, _, _, _, _, _, rfl, _⟩ := h; rfl) | (obtain ⟨_, _, _, _, _, _, _, _, _, _, _, _, _, _, _, rfl, _⟩ := h; rfl) | (obtain ⟨_, _, _, _, _, _, _, _, _, _, _, _, _, _, _, _, rfl, _⟩ := h; rfl)) (fun cdv A outer s H vs Q E hr h => ⟨t_read K, ?_, pure_read T.rms vs H Q E h⟩)
  have hu := hu_of hr
  exact (pss_cons (ps_asg pe_int (pg_name (i := 3) sc_Rooms_read.nd rfl (Or.inl rfl)))
    (pss_cons (ps_while PassesOwn.never (pt_cmp (pc_dnotin hu (pv 1) (pe_ix ix_tup (pv 2) (pe_op op_sub (pe_op op_sub (pe_callB call_len_seq (by rfl) T.b_len (by decide +kernel) (pa_cons (pv 2) pa_nil)) pe_int) (pv 3)) (fun _ _ => rfl)))) (pss_one (ps_asg (pe_op op_add (pv 3) pe_int) (pg_name (i := 3) sc_Rooms_read.nd rfl (Or.inl rfl)))))
    (pss_cons (ps_asg (pe_dget hu (pe_ix ix_tup (pv 2) (pe_op op_sub (pe_op op_sub (pe_callB call_len_seq (by rfl) T.b_len (by decide +kernel) (pa_cons (pv 2) pa_nil)) pe_int) (pv 3)) (fun _ _ => rfl)) (pv 1) (fun _ _ => rfl)) (pg_name (i := 4) sc_Rooms_read.nd rfl (Or.inl rfl)))
    (pss_cons (ps_expr (pe_bm PySem.F.plainAttrs_list PySem.F.slot_list_append PySem.F.type_list_append mt_append (pe_fld (pv 0) rfl) (pa_cons (pe_tup (pa_cons (pv 1) (pa_cons (pv 3) (pa_cons (pv 4) pa_nil)))) pa_nil)))
    (pss_one (ps_ret (pv 4)))))))
theorem ok_Rooms_work {f : Addr} {fd : FuncData} {n : Nat} (F : Fun K "work" "Rooms.work" s_Rooms_work f fd) (T : Txt K w mg dP es n0 cChk cRms cHan)  (c_Rooms_read : C8.Met P w K mg base (1) cRms "read" (spRead K cRms) []) (c_Rooms_call : C8.Met P w K mg base (n + 2) cRms "call" (spRCall K cRms n) []) (c_Rooms_work : C8.Met P w K mg base (n + 2) cRms "work" (spWork K cRms n) []) : FnOk P w K mg base C8.CX0 ((n + 2) + 1) f fd ["self", "part", "pile", "funs"] (spWork K cRms (n + 1)) := by
  refine F.ok sc_Rooms_work (fun vs H Q E h => by first | (obtain ⟨_, rfl, _⟩ := h; rfl) | (obtain ⟨_, _, rfl, _⟩ := h; rfl) | (obtain ⟨_, _, _, rfl, _⟩ := h; rfl) | (obtain ⟨_, _, _, _, rfl, _⟩ := h; rfl) | (obtain ⟨_, _, _, _, _, rfl, _⟩ := h; rfl) | (obtain ⟨_, _, _, _, _, _, rfl, _⟩ := h; rfl) | (obtain ⟨_, _, _, _, _, _, _, rfl, _⟩ := h; rfl) | (obtain ⟨_, _, _, _, _, _, _, _, rfl, _⟩ := h; rfl) | (obtain ⟨_, _, _, _, _, _, _, _, _, rfl, _⟩ := h; rfl) | (obtain ⟨_, _, _, _, _, _, _, _, _, _, rfl, _⟩ := h; rfl) | (obtain ⟨_, _, _, _, _, _, _, _, _, _, _, rfl, _⟩ := h; rfl) | (obtain ⟨_, _, _, _, _, _, _, _, _, _, _, _, rfl, _⟩ := h; rfl) | (obtain ⟨_, _, _, _, _, _, _, _, _, _, _, _, _, rfl, _⟩ := h; rfl) | (obtain ⟨_, _, _, _, _, _, _, _, _, _, _, _, _, _, rfl, _⟩ := h; rfl) | (obtain ⟨_, _, _, _, _, _, _, _, _, _, _, _, _, _, _, rfl, _⟩ := h; rfl) | (obtain ⟨_, _, _, _, _, _, _, _, _, _, _, _, _, _, _, _, rfl, _⟩ := h; rfl)) (fun cdv A outer s H vs Q E hr h => ⟨t_work K cRms n, ?_, pure_work T.rms vs H Q E h⟩)
  have hu := hu_of hr
  exact (pss_cons (ps_asg (pe_ix ix_tup (pv 1) pe_int (fun _ _ => rfl)) (pg_name (i := 4) sc_Rooms_work.nd rfl (Or.inl rfl)))
    (pss_cons (ps_if (pt_cmpR op_eq (pv 4) pe_str (nomark _)) (pss_one (ps_ret (pe_ix ix_tup (pv 1) pe_int (fun _ _ => rfl)))) pss_nil)
    (pss_cons (ps_if (pt_cmpR op_eq (pv 4) pe_str (nomark _)) (pss_one (ps_ret (C8.pe_mt c_Rooms_read hr (by omega) (pv 0) (pa_cons (pe_ix ix_tup (pv 1) pe_int (fun _ _ => rfl)) (pa_cons (pv 2) pa_nil))))) pss_nil)
    (pss_cons (ps_if (pt_cmpR op_eq (pv 4) pe_str (nomark _)) (pss_one (ps_ret (C8.pe_mt c_Rooms_call hr (by omega) (pv 0) (pa_cons (pv 1) (pa_cons (pv 2) (pa_cons (pv 3) pa_nil)))))) pss_nil)
    (pss_cons (ps_if (pt_cmpR op_eq (pv 4) pe_str (nomark _)) (pss_cons (ps_asg (pe_callTy call_dictD (by rfl) T.b_dict (by decide +kernel) (pa_cons (pv 3) pa_nil)) (pg_name (i := 5) sc_Rooms_work.nd rfl (Or.inl rfl)))
    (pss_cons (ps_dput hu (pv 5) (pe_ix ix_tup (pv 1) pe_int (fun _ _ => rfl)) (pe_tup (pa_cons (pe_ix ix_tup (pv 1) pe_int (fun _ _ => rfl)) (pa_cons (pe_ix ix_tup (pv 1) pe_int (fun _ _ => rfl)) (pa_cons (pv 2) (pa_cons (pv 3) pa_nil))))) rfl)
    (pss_one (ps_ret (C8.pe_mt c_Rooms_work hr (by omega) (pv 0) (pa_cons (pe_ix ix_tup (pv 1) pe_int (fun _ _ => rfl)) (pa_cons (pv 2) (pa_cons (pv 5) pa_nil)))))))) pss_nil)
    (pss_cons (ps_asg (C8.pe_mt c_Rooms_work hr (by omega) (pv 0) (pa_cons (pe_ifExp (pt_cmpR op_eq (pv 4) pe_str (nomark _)) (pe_ix ix_tup (pv 1) pe_int (fun _ _ => rfl)) (pe_ix ix_tup (pv 1) pe_int (fun _ _ => rfl))) (pa_cons (pv 2) (pa_cons (pv 3) pa_nil)))) (pg_name (i := 6) sc_Rooms_work.nd rfl (Or.inl rfl)))
    (pss_cons (ps_if (pt_cmpR op_eq (pv 4) pe_str (nomark _)) (pss_one (ps_ret (C8.pe_mt c_Rooms_work hr (by omega) (pv 0) (pa_cons (pe_ix ix_tup (pv 1) pe_int (fun _ _ => rfl)) (pa_cons (pe_op op_catT (pv 2) (pe_tup (pa_cons (pe_disp (pps_cons (pe_ix ix_tup (pv 1) pe_int (fun _ _ => rfl)) (pv 6) pps_nil) (by rfl) (by rfl) (fun z => by cases z) (by decide)) pa_nil))) (pa_cons (pv 3) pa_nil)))))) pss_nil)
    (pss_cons (ps_if (pt_cmpR op_eq (pv 4) pe_str (nomark _)) (pss_cons (ps_expr (pe_bm PySem.F.plainAttrs_list PySem.F.slot_list_append PySem.F.type_list_append mt_append (pe_fld (pv 0) rfl) (pa_cons (pv 6) pa_nil)))
    (pss_one (ps_ret (pv 6)))) pss_nil)
    (pss_cons (ps_if (pt_cmpR op_eq (pv 4) pe_str (nomark _)) (pss_one (ps_ret (C8.pe_mt c_Rooms_work hr (by omega) (pv 0) (pa_cons (pe_ifExp (pt_cmpR op_ne (pv 6) pe_int (nomark _)) (pe_ix ix_tup (pv 1) pe_int (fun _ _ => rfl)) (pe_ix ix_tup (pv 1) pe_int (fun _ _ => rfl))) (pa_cons (pv 2) (pa_cons (pv 3) pa_nil)))))) pss_nil)
    (pss_cons (ps_asg (C8.pe_mt c_Rooms_work hr (by omega) (pv 0) (pa_cons (pe_ix ix_tup (pv 1) pe_int (fun _ _ => rfl)) (pa_cons (pv 2) (pa_cons (pv 3) pa_nil)))) (pg_name (i := 7) sc_Rooms_work.nd rfl (Or.inl rfl)))
    (pss_one (ps_ret (pe_ifExp (pt_cmpR op_eq (pv 4) pe_str (nomark _)) (pe_op op_mod (pe_op op_add (pv 6) (pv 7)) (C8.pe_gc (by rfl) T.g_WHEEL)) (pe_callTy call_int1 (by rfl) T.b_int (by decide +kernel) (pa_cons (pe_cmpR op_lt (pv 6) (pv 7) (nomark _)) pa_nil)))))))))))))))
theorem ok_Rooms_call {f : Addr} {fd : FuncData} {n : Nat} (F : Fun K "call" "Rooms.call" s_Rooms_call f fd) (T : Txt K w mg dP es n0 cChk cRms cHan)  (c_Rooms_work : C8.Met P w K mg base (n + 2) cRms "work" (spWork K cRms n) []) : FnOk P w K mg base C8.CX0 ((n + 2) + 1) f fd ["self", "part", "pile", "funs"] (spRCall K cRms (n + 1)) := by
  refine F.ok sc_Rooms_call (fun vs H Q E h => by first | (obtain ⟨_, rfl, _⟩ := h; rfl) | (obtain ⟨_, _, rfl, _⟩ := h; rfl) | (obtain ⟨_, _, _, rfl, _⟩ := h; rfl) | (obtain ⟨_, _, _, _, rfl, _⟩ := h; rfl) | (obtain ⟨_, _, _, _, _, rfl, _⟩ := h; rfl) | (obtain ⟨_, _, _, _, _, _, rfl, _⟩ := h; rfl) | (obtain ⟨_, _, _, _, _, _, _, rfl, _⟩ := h; rfl) | (obtain ⟨_, _, _, _, _, _, _, _, rfl, _⟩ := h; rfl) | (obtain ⟨_, _, _, _, _, _, _, _, _, rfl, _⟩ := h; rfl) | (obtain ⟨_, _, _, _, _, _, _, _, _, _, rfl, _⟩ := h; rfl) | (obtain ⟨_, _, _, _, _, _, _, _, _, _, _, rfl, _⟩ := h; rfl) | (obtain ⟨_, _, _, _, _, _, _, _, _, _, _, _, rfl, _⟩ := h; rfl) | (obtain ⟨_, _, _, _, _, _, _, _, _, _, _, _, _, rfl, _⟩ := h; rfl) | (obtain ⟨_, _, _, _, _, _, _, _, _, _, _, _, _, _, rfl, _⟩ := h; rfl) | (obtain ⟨_, _, _, _, _, _, _, _, _, _, _, _, _, _, _, rfl, _⟩ := h; rfl) | (obtain ⟨_, _, _, _, _, _, _, _, _, _, _, _, _, _, _, _, rfl, _⟩ := h; rfl)) (fun cdv A outer s H vs Q E hr h => ⟨t_rcall K cRms n, ?_, pure_rcall T.rms vs H Q E h⟩)
  have hu := hu_of hr
  exact (pss_cons (ps_setLc (i := 4) (own := [("one", 10)]) (g := (gName 10)) (tt := tYes) (te := (tMeth cRms "work" (spWork K cRms n) [] C8.E0 (tVar 0) (tCons (tVar 10) (tCons (tVar 2) (tCons (tVar 3) tNil))))) rfl sc_Rooms_call.nd rfl rfl (sw_true rfl rfl rfl (by decide +kernel)) (pi_tup (pe_ix ix_tup (pv 1) pe_int (fun _ _ => rfl))) (blkOk_by (N := ["self", "part", "pile", "funs", "numbers", "params", "body", "home", "known", "room", "one"]) (sc := defScope s_Rooms_call) (by decide +kernel)) (fun _ _ _ _ _ => (pg_name (i := 10) sc_Rooms_call.nd rfl (Or.inl rfl))) (fun _ _ _ _ _ => pts_nil) (fun _ _ _ _ _ => (C8.pe_mt c_Rooms_work hr (by omega) (pv 0) (pa_cons (pv 10) (pa_cons (pv 2) (pa_cons (pv 3) pa_nil))))))
    (pss_cons (ps_asg (pe_dget hu (pv 3) (pe_ix ix_tup (pv 1) pe_int (fun _ _ => rfl)) (fun _ _ => rfl)) (pg_tup (by rfl) (pgs_cons (pg_name (i := 5) sc_Rooms_call.nd rfl (Or.inl rfl)) (pgs_cons (pg_name (i := 6) sc_Rooms_call.nd rfl (Or.inl rfl)) (pgs_cons (pg_name (i := 7) sc_Rooms_call.nd rfl (Or.inl rfl)) (pgs_cons (pg_name (i := 8) sc_Rooms_call.nd rfl (Or.inl rfl)) pgs_nil))))))
    (pss_cons (ps_asg (pe_callTy (call_dictP rfl) (by rfl) T.b_dict (by decide +kernel) (pa_cons (BNZ.pe_listZip rfl (by rfl) T.b_list (by rfl) T.b_zip (pa_cons (pv 5) (pa_cons (pv 4) pa_nil))) pa_nil)) (pg_name (i := 9) sc_Rooms_call.nd rfl (Or.inl rfl)))
    (pss_one (ps_ret (C8.pe_mt c_Rooms_work hr (by omega) (pv 0) (pa_cons (pv 6) (pa_cons (pe_op op_catT (pe_ifExp (pt_val (pe_fld (pv 0) rfl) (by intro _; rfl)) (pv 7) (pv 2)) (pe_tup (pa_cons (pv 9) pa_nil))) (pa_cons (pv 8) pa_nil)))))))))
theorem ok_gone {f : Addr} {fd : FuncData}  (F : Fun K "gone" "gone" s_gone f fd) (T : Txt K w mg dP es n0 cChk cRms cHan)  (c_Rooms : C8.Mak P w K mg base (1) "Rooms" cRms (spRmInit cRms) []) (c_Rooms_work : C8.Met P w K mg base (132) cRms "work" (spWork K cRms 130) []) : FnOk P w K mg base C8.CX0 (132 + 1) f fd ["program", "numbers", "meaning"] (spGone K cRms) := by
  refine F.ok sc_gone (fun vs H Q E h => by first | (obtain ⟨_, rfl, _⟩ := h; rfl) | (obtain ⟨_, _, rfl, _⟩ := h; rfl) | (obtain ⟨_, _, _, rfl, _⟩ := h; rfl) | (obtain ⟨_, _, _, _, rfl, _⟩ := h; rfl) | (obtain ⟨_, _, _, _, _, rfl, _⟩ := h; rfl) | (obtain ⟨_, _, _, _, _, _, rfl, _⟩ := h; rfl) | (obtain ⟨_, _, _, _, _, _, _, rfl, _⟩ := h; rfl) | (obtain ⟨_, _, _, _, _, _, _, _, rfl, _⟩ := h; rfl) | (obtain ⟨_, _, _, _, _, _, _, _, _, rfl, _⟩ := h; rfl) | (obtain ⟨_, _, _, _, _, _, _, _, _, _, rfl, _⟩ := h; rfl) | (obtain ⟨_, _, _, _, _, _, _, _, _, _, _, rfl, _⟩ := h; rfl) | (obtain ⟨_, _, _, _, _, _, _, _, _, _, _, _, rfl, _⟩ := h; rfl) | (obtain ⟨_, _, _, _, _, _, _, _, _, _, _, _, _, rfl, _⟩ := h; rfl) | (obtain ⟨_, _, _, _, _, _, _, _, _, _, _, _, _, _, rfl, _⟩ := h; rfl) | (obtain ⟨_, _, _, _, _, _, _, _, _, _, _, _, _, _, _, rfl, _⟩ := h; rfl) | (obtain ⟨_, _, _, _, _, _, _, _, _, _, _, _, _, _, _, _, rfl, _⟩ := h; rfl)) (fun cdv A outer s H vs Q E hr h => ⟨t_gone K cRms, ?_, pure_gone T.rms vs H Q E h⟩)
  have hu := hu_of hr
  exact (pss_cons (ps_asg (C8.pe_mk c_Rooms hr (by omega) rfl (pa_cons (pv 2) pa_nil)) (pg_name (i := 3) sc_gone.nd rfl (Or.inl rfl)))
    (pss_cons (ps_asg (pe_callTy (call_dictP rfl) (by rfl) T.b_dict (by decide +kernel) (pa_cons (BNZ.pe_listZip rfl (by rfl) T.b_list (by rfl) T.b_zip (pa_cons (pe_ix ix_tup (pv 0) pe_int (fun _ _ => rfl)) (pa_cons (pv 1) pa_nil))) pa_nil)) (pg_name (i := 4) sc_gone.nd rfl (Or.inl rfl)))
    (pss_one (ps_ret (pe_tup (pa_cons (pv 3) (pa_cons (C8.pe_mt c_Rooms_work hr (by omega) (pv 3) (pa_cons (pe_ix ix_tup (pv 0) pe_int (fun _ _ => rfl)) (pa_cons (pe_tup (pa_cons (pv 4) pa_nil)) (pa_cons pe_dnewK pa_nil)))) pa_nil)))))))
theorem ok_run {f : Addr} {fd : FuncData}  (F : Fun K "run" "run" s_run f fd) (T : Txt K w mg dP es n0 cChk cRms cHan)  (c_check_run : C8.Cal P w K mg base (24) "check_run" (spCheckR K) []) (c_gone : C8.Cal P w K mg base (133) "gone" (spGone K cRms) []) : FnOk P w K mg base C8.CX0 (133 + 1) f fd ["program", "numbers", "meaning"] (spRun K) := by
  refine F.ok sc_run (fun vs H Q E h => by first | (obtain ⟨_, rfl, _⟩ := h; rfl) | (obtain ⟨_, _, rfl, _⟩ := h; rfl) | (obtain ⟨_, _, _, rfl, _⟩ := h; rfl) | (obtain ⟨_, _, _, _, rfl, _⟩ := h; rfl) | (obtain ⟨_, _, _, _, _, rfl, _⟩ := h; rfl) | (obtain ⟨_, _, _, _, _, _, rfl, _⟩ := h; rfl) | (obtain ⟨_, _, _, _, _, _, _, rfl, _⟩ := h; rfl) | (obtain ⟨_, _, _, _, _, _, _, _, rfl, _⟩ := h; rfl) | (obtain ⟨_, _, _, _, _, _, _, _, _, rfl, _⟩ := h; rfl) | (obtain ⟨_, _, _, _, _, _, _, _, _, _, rfl, _⟩ := h; rfl) | (obtain ⟨_, _, _, _, _, _, _, _, _, _, _, rfl, _⟩ := h; rfl) | (obtain ⟨_, _, _, _, _, _, _, _, _, _, _, _, rfl, _⟩ := h; rfl) | (obtain ⟨_, _, _, _, _, _, _, _, _, _, _, _, _, rfl, _⟩ := h; rfl) | (obtain ⟨_, _, _, _, _, _, _, _, _, _, _, _, _, _, rfl, _⟩ := h; rfl) | (obtain ⟨_, _, _, _, _, _, _, _, _, _, _, _, _, _, _, rfl, _⟩ := h; rfl) | (obtain ⟨_, _, _, _, _, _, _, _, _, _, _, _, _, _, _, _, rfl, _⟩ := h; rfl)) (fun cdv A outer s H vs Q E hr h => ⟨t_run K cRms, ?_, pure_run T.rms vs H Q E h⟩)
  have hu := hu_of hr
  exact (pss_cons (ps_expr (C8.pe_c c_check_run hr (by omega) rfl (pa_cons (pv 0) (pa_cons (pv 1) (pa_cons (pv 2) pa_nil)))))
    (pss_cons (ps_asg (C8.pe_c c_gone hr (by omega) rfl (pa_cons (pv 0) (pa_cons (pv 1) (pa_cons (pv 2) pa_nil)))) (pg_tup (by rfl) (pgs_cons (pg_name (i := 3) sc_run.nd rfl (Or.inl rfl)) (pgs_cons (pg_name (i := 4) sc_run.nd rfl (Or.inl rfl)) pgs_nil))))
    (pss_one (ps_ret (pe_tup (pa_cons (pv 4) (pa_cons (pe_callTy call_tuple_of (by rfl) T.b_tuple (by decide +kernel) (pa_cons (pe_fld (pv 3) rfl) pa_nil)) pa_nil)))))))
theorem ok_law_room {f : Addr} {fd : FuncData}  (F : Fun K "_law_room" "_law_room" s__law_room f fd) (T : Txt K w mg dP es n0 cChk cRms cHan)   : FnOk P w K mg base C8.CX0 (0 + 1) f fd ["_law_names", "_law_numbers_here"] (spLRoom K) := by
  refine F.ok sc__law_room (fun vs H Q E h => by first | (obtain ⟨_, rfl, _⟩ := h; rfl) | (obtain ⟨_, _, rfl, _⟩ := h; rfl) | (obtain ⟨_, _, _, rfl, _⟩ := h; rfl) | (obtain ⟨_, _, _, _, rfl, _⟩ := h; rfl) | (obtain ⟨_, _, _, _, _, rfl, _⟩ := h; rfl) | (obtain ⟨_, _, _, _, _, _, rfl, _⟩ := h; rfl) | (obtain ⟨_, _, _, _, _, _, _, rfl, _⟩ := h; rfl) | (obtain ⟨_, _, _, _, _, _, _, _, rfl, _⟩ := h; rfl) | (obtain ⟨_, _, _, _, _, _, _, _, _, rfl, _⟩ := h; rfl) | (obtain ⟨_, _, _, _, _, _, _, _, _, _, rfl, _⟩ := h; rfl) | (obtain ⟨_, _, _, _, _, _, _, _, _, _, _, rfl, _⟩ := h; rfl) | (obtain ⟨_, _, _, _, _, _, _, _, _, _, _, _, rfl, _⟩ := h; rfl) | (obtain ⟨_, _, _, _, _, _, _, _, _, _, _, _, _, rfl, _⟩ := h; rfl) | (obtain ⟨_, _, _, _, _, _, _, _, _, _, _, _, _, _, rfl, _⟩ := h; rfl) | (obtain ⟨_, _, _, _, _, _, _, _, _, _, _, _, _, _, _, rfl, _⟩ := h; rfl) | (obtain ⟨_, _, _, _, _, _, _, _, _, _, _, _, _, _, _, _, rfl, _⟩ := h; rfl)) (fun cdv A outer s H vs Q E hr h => ⟨t_lroom K, ?_, pure_lroom vs H Q E h⟩)
  have hu := hu_of hr
  exact (pss_one (ps_ret (pe_callTy (call_dictP rfl) (by rfl) T.b_dict (by decide +kernel) (pa_cons (pe_lc (own := [("_law_k", 2)]) (g := (gName 2)) (tt := tYes) (te := (tTup (tCons (tOp (rIxT K) (tVar 0) (tVar 2)) (tCons (tOp (rIx K) (tVar 1) (tVar 2)) tNil)))) rfl sc__law_room.nd (pi_range1 rfl T.b_range (pa_cons (pe_callB call_len_seq (by rfl) T.b_len (by decide +kernel) (pa_cons (pv 0) pa_nil)) pa_nil)) (blkOk_by (N := ["_law_names", "_law_numbers_here", "_law_k"]) (sc := defScope s__law_room) (by decide +kernel)) (fun _ _ _ _ _ => (pg_name (i := 2) sc__law_room.nd rfl (Or.inl rfl))) (fun _ _ _ _ _ => pts_nil) (fun _ _ _ _ _ => (pe_tup (pa_cons (pe_ix ix_tup (pv 0) (pv 2) (fun _ _ => rfl)) (pa_cons (pe_ix ix_seq (pv 1) (pv 2) (fun _ _ => rfl)) pa_nil))))) pa_nil))))
theorem ok_law_read {f : Addr} {fd : FuncData}  (F : Fun K "_law_read" "_law_read" s__law_read f fd) (T : Txt K w mg dP es n0 cChk cRms cHan)   : FnOk P w K mg base C8.CX0 (0 + 1) f fd ["_law_name", "_law_pile", "_law_told"] (spLRead K) := by
  refine F.ok sc__law_read (fun vs H Q E h => by first | (obtain ⟨_, rfl, _⟩ := h; rfl) | (obtain ⟨_, _, rfl, _⟩ := h; rfl) | (obtain ⟨_, _, _, rfl, _⟩ := h; rfl) | (obtain ⟨_, _, _, _, rfl, _⟩ := h; rfl) | (obtain ⟨_, _, _, _, _, rfl, _⟩ := h; rfl) | (obtain ⟨_, _, _, _, _, _, rfl, _⟩ := h; rfl) | (obtain ⟨_, _, _, _, _, _, _, rfl, _⟩ := h; rfl) | (obtain ⟨_, _, _, _, _, _, _, _, rfl, _⟩ := h; rfl) | (obtain ⟨_, _, _, _, _, _, _, _, _, rfl, _⟩ := h; rfl) | (obtain ⟨_, _, _, _, _, _, _, _, _, _, rfl, _⟩ := h; rfl) | (obtain ⟨_, _, _, _, _, _, _, _, _, _, _, rfl, _⟩ := h; rfl) | (obtain ⟨_, _, _, _, _, _, _, _, _, _, _, _, rfl, _⟩ := h; rfl) | (obtain ⟨_, _, _, _, _, _, _, _, _, _, _, _, _, rfl, _⟩ := h; rfl) | (obtain ⟨_, _, _, _, _, _, _, _, _, _, _, _, _, _, rfl, _⟩ := h; rfl) | (obtain ⟨_, _, _, _, _, _, _, _, _, _, _, _, _, _, _, rfl, _⟩ := h; rfl) | (obtain ⟨_, _, _, _, _, _, _, _, _, _, _, _, _, _, _, _, rfl, _⟩ := h; rfl)) (fun cdv A outer s H vs Q E hr h => ⟨t_lread K, ?_, pure_lread vs H Q E h⟩)
  have hu := hu_of hr
  exact (pss_cons (ps_setLc (i := 3) (own := [("_law_k", 4)]) (g := (gName 4)) (tt := (tB (tDIn (tVar 0) (tOp (rIxL K) (tVar 1) (tVar 4))))) (te := (tVar 4)) rfl sc__law_read.nd rfl rfl (sw_true rfl rfl rfl (by decide +kernel)) (pi_range1 rfl T.b_range (pa_cons (pe_callB call_len_seq (by rfl) T.b_len (by decide +kernel) (pa_cons (pv 1) pa_nil)) pa_nil)) (blkOk_by (N := ["_law_name", "_law_pile", "_law_told", "_law_some", "_law_k"]) (sc := defScope s__law_read) (by decide +kernel)) (fun _ _ _ _ _ => (pg_name (i := 4) sc__law_read.nd rfl (Or.inl rfl))) (fun _ _ _ _ _ => (pts_one (pt_cmp (pc_din hu (pv 0) (pe_ix ix_list (pv 1) (pv 4) (fun _ _ => rfl)))))) (fun _ _ _ _ _ => (pv 4)))
    (pss_cons (ps_expr (pe_bm PySem.F.plainAttrs_list PySem.F.slot_list_append PySem.F.type_list_append mt_append (pe_ix ix_tup (pv 2) pe_int (fun _ _ => rfl)) (pa_cons (pe_tup (pa_cons (pv 0) (pa_cons (pe_op op_sub (pe_op op_sub (pe_callB call_len_seq (by rfl) T.b_len (by decide +kernel) (pa_cons (pv 1) pa_nil)) pe_int) (pe_ix ix_list (pv 3) (pe_un un_neg pe_int) (fun _ _ => rfl))) (pa_cons (pe_dget hu (pe_ix ix_list (pv 1) (pe_ix ix_list (pv 3) (pe_un un_neg pe_int) (fun _ _ => rfl)) (fun _ _ => rfl)) (pv 0) (fun _ _ => rfl)) pa_nil)))) pa_nil)))
    (pss_one (ps_ret (pe_dget hu (pe_ix ix_list (pv 1) (pe_ix ix_list (pv 3) (pe_un un_neg pe_int) (fun _ _ => rfl)) (fun _ _ => rfl)) (pv 0) (fun _ _ => rfl))))))
theorem ok_law_work {f : Addr} {fd : FuncData} {n : Nat} (F : Fun K "_law_work" "_law_work" s__law_work f fd) (T : Txt K w mg dP es n0 cChk cRms cHan)  (c_law_read : C8.Cal P w K mg base (1) "_law_read" (spLRead K) []) (c_law_call : C8.Cal P w K mg base (n + 2) "_law_call" (spLCall K n) []) (c_law_work : C8.Cal P w K mg base (n + 2) "_law_work" (spLWork K n) []) : FnOk P w K mg base C8.CX0 ((n + 2) + 1) f fd ["_law_part_here", "_law_pile", "_law_funs_here", "_law_told", "_law_near"] (spLWork K (n + 1)) := by
  refine F.ok sc__law_work (fun vs H Q E h => by first | (obtain ⟨_, rfl, _⟩ := h; rfl) | (obtain ⟨_, _, rfl, _⟩ := h; rfl) | (obtain ⟨_, _, _, rfl, _⟩ := h; rfl) | (obtain ⟨_, _, _, _, rfl, _⟩ := h; rfl) | (obtain ⟨_, _, _, _, _, rfl, _⟩ := h; rfl) | (obtain ⟨_, _, _, _, _, _, rfl, _⟩ := h; rfl) | (obtain ⟨_, _, _, _, _, _, _, rfl, _⟩ := h; rfl) | (obtain ⟨_, _, _, _, _, _, _, _, rfl, _⟩ := h; rfl) | (obtain ⟨_, _, _, _, _, _, _, _, _, rfl, _⟩ := h; rfl) | (obtain ⟨_, _, _, _, _, _, _, _, _, _, rfl, _⟩ := h; rfl) | (obtain ⟨_, _, _, _, _, _, _, _, _, _, _, rfl, _⟩ := h; rfl) | (obtain ⟨_, _, _, _, _, _, _, _, _, _, _, _, rfl, _⟩ := h; rfl) | (obtain ⟨_, _, _, _, _, _, _, _, _, _, _, _, _, rfl, _⟩ := h; rfl) | (obtain ⟨_, _, _, _, _, _, _, _, _, _, _, _, _, _, rfl, _⟩ := h; rfl) | (obtain ⟨_, _, _, _, _, _, _, _, _, _, _, _, _, _, _, rfl, _⟩ := h; rfl) | (obtain ⟨_, _, _, _, _, _, _, _, _, _, _, _, _, _, _, _, rfl, _⟩ := h; rfl)) (fun cdv A outer s H vs Q E hr h => ⟨t_lwork K n, ?_, pure_lwork vs H Q E h⟩)
  have hu := hu_of hr
  exact (pss_cons (ps_asg (pe_ix ix_tup (pv 0) pe_int (fun _ _ => rfl)) (pg_name (i := 5) sc__law_work.nd rfl (Or.inl rfl)))
    (pss_cons (ps_if (pt_cmpR op_eq (pv 5) pe_str (nomark _)) (pss_one (ps_ret (pe_ix ix_tup (pv 0) pe_int (fun _ _ => rfl)))) pss_nil)
    (pss_cons (ps_if (pt_cmpR op_eq (pv 5) pe_str (nomark _)) (pss_one (ps_ret (C8.pe_c c_law_read hr (by omega) rfl (pa_cons (pe_ix ix_tup (pv 0) pe_int (fun _ _ => rfl)) (pa_cons (pv 1) (pa_cons (pv 3) pa_nil)))))) pss_nil)
    (pss_cons (ps_if (pt_cmpR op_eq (pv 5) pe_str (nomark _)) (pss_one (ps_ret (C8.pe_c c_law_call hr (by omega) rfl (pa_cons (pv 0) (pa_cons (pv 1) (pa_cons (pv 2) (pa_cons (pv 3) (pa_cons (pv 4) pa_nil)))))))) pss_nil)
    (pss_cons (ps_if (pt_cmpR op_eq (pv 5) pe_str (nomark _)) (pss_cons (ps_asg (pe_callTy call_dictD (by rfl) T.b_dict (by decide +kernel) (pa_cons (pv 2) pa_nil)) (pg_name (i := 6) sc__law_work.nd rfl (Or.inl rfl)))
    (pss_cons (ps_dput hu (pv 6) (pe_ix ix_tup (pv 0) pe_int (fun _ _ => rfl)) (pe_tup (pa_cons (pe_ix ix_tup (pv 0) pe_int (fun _ _ => rfl)) (pa_cons (pe_ix ix_tup (pv 0) pe_int (fun _ _ => rfl)) (pa_cons (pv 1) (pa_cons (pv 2) pa_nil))))) rfl)
    (pss_one (ps_ret (C8.pe_c c_law_work hr (by omega) rfl (pa_cons (pe_ix ix_tup (pv 0) pe_int (fun _ _ => rfl)) (pa_cons (pv 1) (pa_cons (pv 6) (pa_cons (pv 3) (pa_cons (pv 4) pa_nil)))))))))) pss_nil)
    (pss_cons (ps_if (pt_cmpR op_eq (pv 5) pe_str (nomark _)) (pss_cons (ps_asg (C8.pe_c c_law_work hr (by omega) rfl (pa_cons (pe_ix ix_tup (pv 0) pe_int (fun _ _ => rfl)) (pa_cons (pv 1) (pa_cons (pv 2) (pa_cons (pv 3) (pa_cons (pv 4) pa_nil)))))) (pg_name (i := 7) sc__law_work.nd rfl (Or.inl rfl)))
    (pss_one (ps_ret (C8.pe_c c_law_work hr (by omega) rfl (pa_cons (pe_ix ix_tup (pv 0) pe_int (fun _ _ => rfl)) (pa_cons (pe_op op_cat (pv 1) (pe_lst (pa_cons (pe_disp (pps_cons (pe_ix ix_tup (pv 0) pe_int (fun _ _ => rfl)) (pv 7) pps_nil) (by rfl) (by rfl) (fun z => by cases z) (by decide)) pa_nil))) (pa_cons (pv 2) (pa_cons (pv 3) (pa_cons (pv 4) pa_nil))))))))) pss_nil)
    (pss_cons (ps_asg (C8.pe_c c_law_work hr (by omega) rfl (pa_cons (pe_ix ix_tup (pv 0) pe_int (fun _ _ => rfl)) (pa_cons (pv 1) (pa_cons (pv 2) (pa_cons (pv 3) (pa_cons (pv 4) pa_nil)))))) (pg_name (i := 7) sc__law_work.nd rfl (Or.inl rfl)))
    (pss_cons (ps_if (pt_cmpR op_eq (pv 5) pe_str (nomark _)) (pss_one (ps_expr (pe_bm PySem.F.plainAttrs_list PySem.F.slot_list_append PySem.F.type_list_append mt_append (pe_ix ix_tup (pv 3) pe_int (fun _ _ => rfl)) (pa_cons (pv 7) pa_nil)))) pss_nil)
    (pss_cons (ps_if (pt_cmpR op_eq (pv 5) pe_str (nomark _)) (pss_one (ps_ret (C8.pe_c c_law_work hr (by omega) rfl (pa_cons (pe_ix ix_tup (pv 0) (pe_op op_add pe_int (pe_callTy call_int1 (by rfl) T.b_int (by decide +kernel) (pa_cons (pe_cmpR op_eq (pv 7) pe_int (nomark _)) pa_nil))) (fun _ _ => rfl)) (pa_cons (pv 1) (pa_cons (pv 2) (pa_cons (pv 3) (pa_cons (pv 4) pa_nil)))))))) pss_nil)
    (pss_cons (ps_if (pt_cmpR op_in_seq (pv 5) (pe_tup (pa_cons pe_str (pa_cons pe_str pa_nil))) (by rfl)) (pss_cons (ps_asg (C8.pe_c c_law_work hr (by omega) rfl (pa_cons (pe_ix ix_tup (pv 0) pe_int (fun _ _ => rfl)) (pa_cons (pv 1) (pa_cons (pv 2) (pa_cons (pv 3) (pa_cons (pv 4) pa_nil)))))) (pg_name (i := 8) sc__law_work.nd rfl (Or.inl rfl)))
    (pss_one (ps_ret (pe_ix ix_list (pe_lst (pa_cons (pe_op op_mod (pe_op op_add (pv 7) (pv 8)) pe_int) (pa_cons (pe_callTy call_int1 (by rfl) T.b_int (by decide +kernel) (pa_cons (pe_cmpR op_lt (pv 7) (pv 8) (nomark _)) pa_nil)) pa_nil))) (pe_callTy call_int1 (by rfl) T.b_int (by decide +kernel) (pa_cons (pe_cmpR op_eq (pv 5) pe_str (nomark _)) pa_nil)) (fun _ _ => rfl))))) pss_nil)
    (pss_one (ps_ret (pv 7)))))))))))))
theorem ok_law_call {f : Addr} {fd : FuncData} {n : Nat} (F : Fun K "_law_call" "_law_call" s__law_call f fd) (T : Txt K w mg dP es n0 cChk cRms cHan)  (c_law_work : C8.Cal P w K mg base (n + 2) "_law_work" (spLWork K n) []) (c_law_room : C8.Cal P w K mg base (1) "_law_room" (spLRoom K) []) : FnOk P w K mg base C8.CX0 ((n + 2) + 1) f fd ["_law_part_here", "_law_pile", "_law_funs_here", "_law_told", "_law_near"] (spLCall K (n + 1)) := by
  refine F.ok sc__law_call (fun vs H Q E h => by first | (obtain ⟨_, rfl, _⟩ := h; rfl) | (obtain ⟨_, _, rfl, _⟩ := h; rfl) | (obtain ⟨_, _, _, rfl, _⟩ := h; rfl) | (obtain ⟨_, _, _, _, rfl, _⟩ := h; rfl) | (obtain ⟨_, _, _, _, _, rfl, _⟩ := h; rfl) | (obtain ⟨_, _, _, _, _, _, rfl, _⟩ := h; rfl) | (obtain ⟨_, _, _, _, _, _, _, rfl, _⟩ := h; rfl) | (obtain ⟨_, _, _, _, _, _, _, _, rfl, _⟩ := h; rfl) | (obtain ⟨_, _, _, _, _, _, _, _, _, rfl, _⟩ := h; rfl) | (obtain ⟨_, _, _, _, _, _, _, _, _, _, rfl, _⟩ := h; rfl) | (obtain ⟨_, _, _, _, _, _, _, _, _, _, _, rfl, _⟩ := h; rfl) | (obtain ⟨_, _, _, _, _, _, _, _, _, _, _, _, rfl, _⟩ := h; rfl) | (obtain ⟨_, _, _, _, _, _, _, _, _, _, _, _, _, rfl, _⟩ := h; rfl) | (obtain ⟨_, _, _, _, _, _, _, _, _, _, _, _, _, _, rfl, _⟩ := h; rfl) | (obtain ⟨_, _, _, _, _, _, _, _, _, _, _, _, _, _, _, rfl, _⟩ := h; rfl) | (obtain ⟨_, _, _, _, _, _, _, _, _, _, _, _, _, _, _, _, rfl, _⟩ := h; rfl)) (fun cdv A outer s H vs Q E hr h => ⟨t_lcall K n, ?_, pure_lcall vs H Q E h⟩)
  have hu := hu_of hr
  exact (pss_cons (ps_setLc (i := 5) (own := [("_law_one", 10)]) (g := (gName 10)) (tt := tYes) (te := (tCall (spLWork K n) [] C8.E0 (tCons (tVar 10) (tCons (tVar 1) (tCons (tVar 2) (tCons (tVar 3) (tCons (tVar 4) tNil))))))) rfl sc__law_call.nd rfl rfl (sw_true rfl rfl rfl (by decide +kernel)) (pi_tup (pe_ix ix_tup (pv 0) pe_int (fun _ _ => rfl))) (blkOk_by (N := ["_law_part_here", "_law_pile", "_law_funs_here", "_law_told", "_law_near", "_law_numbers_here", "_law_params", "_law_body", "_law_home", "_law_known", "_law_one"]) (sc := defScope s__law_call) (by decide +kernel)) (fun _ _ _ _ _ => (pg_name (i := 10) sc__law_call.nd rfl (Or.inl rfl))) (fun _ _ _ _ _ => pts_nil) (fun _ _ _ _ _ => (C8.pe_c c_law_work hr (by omega) rfl (pa_cons (pv 10) (pa_cons (pv 1) (pa_cons (pv 2) (pa_cons (pv 3) (pa_cons (pv 4) pa_nil))))))))
    (pss_cons (ps_asg (pe_dget hu (pv 2) (pe_ix ix_tup (pv 0) pe_int (fun _ _ => rfl)) (fun _ _ => rfl)) (pg_tup (by rfl) (pgs_cons (pg_name (i := 6) sc__law_call.nd rfl (Or.inl rfl)) (pgs_cons (pg_name (i := 7) sc__law_call.nd rfl (Or.inl rfl)) (pgs_cons (pg_name (i := 8) sc__law_call.nd rfl (Or.inl rfl)) (pgs_cons (pg_name (i := 9) sc__law_call.nd rfl (Or.inl rfl)) pgs_nil))))))
    (pss_one (ps_ret (C8.pe_c c_law_work hr (by omega) rfl (pa_cons (pv 7) (pa_cons (pe_op op_cat (pe_ix ix_list (pe_lst (pa_cons (pv 1) (pa_cons (pv 8) pa_nil))) (pe_callTy call_int1 (by rfl) T.b_int (by decide +kernel) (pa_cons (pv 4) pa_nil)) (fun _ _ => rfl)) (pe_lst (pa_cons (C8.pe_c c_law_room hr (by omega) rfl (pa_cons (pv 6) (pa_cons (pv 5) pa_nil))) pa_nil))) (pa_cons (pv 9) (pa_cons (pv 3) (pa_cons (pv 4) pa_nil))))))))))
theorem ok_law_run {f : Addr} {fd : FuncData}  (F : Fun K "_law_run" "_law_run" s__law_run f fd) (T : Txt K w mg dP es n0 cChk cRms cHan)  (c_law_room : C8.Cal P w K mg base (1) "_law_room" (spLRoom K) []) (c_law_work : C8.Cal P w K mg base (132) "_law_work" (spLWork K 130) []) : FnOk P w K mg base C8.CX0 (132 + 1) f fd ["_law_program_here", "_law_numbers_here", "_law_near"] (spLRun K) := by
  refine F.ok sc__law_run (fun vs H Q E h => by first | (obtain ⟨_, rfl, _⟩ := h; rfl) | (obtain ⟨_, _, rfl, _⟩ := h; rfl) | (obtain ⟨_, _, _, rfl, _⟩ := h; rfl) | (obtain ⟨_, _, _, _, rfl, _⟩ := h; rfl) | (obtain ⟨_, _, _, _, _, rfl, _⟩ := h; rfl) | (obtain ⟨_, _, _, _, _, _, rfl, _⟩ := h; rfl) | (obtain ⟨_, _, _, _, _, _, _, rfl, _⟩ := h; rfl) | (obtain ⟨_, _, _, _, _, _, _, _, rfl, _⟩ := h; rfl) | (obtain ⟨_, _, _, _, _, _, _, _, _, rfl, _⟩ := h; rfl) | (obtain ⟨_, _, _, _, _, _, _, _, _, _, rfl, _⟩ := h; rfl) | (obtain ⟨_, _, _, _, _, _, _, _, _, _, _, rfl, _⟩ := h; rfl) | (obtain ⟨_, _, _, _, _, _, _, _, _, _, _, _, rfl, _⟩ := h; rfl) | (obtain ⟨_, _, _, _, _, _, _, _, _, _, _, _, _, rfl, _⟩ := h; rfl) | (obtain ⟨_, _, _, _, _, _, _, _, _, _, _, _, _, _, rfl, _⟩ := h; rfl) | (obtain ⟨_, _, _, _, _, _, _, _, _, _, _, _, _, _, _, rfl, _⟩ := h; rfl) | (obtain ⟨_, _, _, _, _, _, _, _, _, _, _, _, _, _, _, _, rfl, _⟩ := h; rfl)) (fun cdv A outer s H vs Q E hr h => ⟨t_lrun K, ?_, pure_lrun vs H Q E h⟩)
  have hu := hu_of hr
  exact (pss_cons (ps_asg (pe_tup (pa_cons (pe_lst pa_nil) (pa_cons (pe_lst pa_nil) pa_nil))) (pg_name (i := 3) sc__law_run.nd rfl (Or.inl rfl)))
    (pss_cons (ps_asg (C8.pe_c c_law_work hr (by omega) rfl (pa_cons (pe_ix ix_tup (pv 0) pe_int (fun _ _ => rfl)) (pa_cons (pe_lst (pa_cons (C8.pe_c c_law_room hr (by omega) rfl (pa_cons (pe_ix ix_tup (pv 0) pe_int (fun _ _ => rfl)) (pa_cons (pv 1) pa_nil))) pa_nil)) (pa_cons pe_dnewK (pa_cons (pv 3) (pa_cons (pv 2) pa_nil)))))) (pg_name (i := 4) sc__law_run.nd rfl (Or.inl rfl)))
    (pss_one (ps_ret (pe_tup (pa_cons (pv 4) (pa_cons (pe_ix ix_tup (pv 3) pe_int (fun _ _ => rfl)) (pa_cons (pe_ix ix_tup (pv 3) pe_int (fun _ _ => rfl)) pa_nil))))))))
theorem ok_size_of {f : Addr} {fd : FuncData} {n : Nat} (F : Fun K "size_of" "size_of" s_size_of f fd) (T : Txt K w mg dP es n0 cChk cRms cHan)  (c_size_of : C8.Cal P w K mg base (n + 1) "size_of" (spSize K n) []) (c_inner_of : C8.Cal P w K mg base (1) "inner_of" (spInner K) []) : FnOk P w K mg base C8.CX0 ((n + 1) + 1) f fd ["part"] (spSize K (n + 1)) := by
  refine F.ok sc_size_of (fun vs H Q E h => by first | (obtain ⟨_, rfl, _⟩ := h; rfl) | (obtain ⟨_, _, rfl, _⟩ := h; rfl) | (obtain ⟨_, _, _, rfl, _⟩ := h; rfl) | (obtain ⟨_, _, _, _, rfl, _⟩ := h; rfl) | (obtain ⟨_, _, _, _, _, rfl, _⟩ := h; rfl) | (obtain ⟨_, _, _, _, _, _, rfl, _⟩ := h; rfl) | (obtain ⟨_, _, _, _, _, _, _, rfl, _⟩ := h; rfl) | (obtain ⟨_, _, _, _, _, _, _, _, rfl, _⟩ := h; rfl) | (obtain ⟨_, _, _, _, _, _, _, _, _, rfl, _⟩ := h; rfl) | (obtain ⟨_, _, _, _, _, _, _, _, _, _, rfl, _⟩ := h; rfl) | (obtain ⟨_, _, _, _, _, _, _, _, _, _, _, rfl, _⟩ := h; rfl) | (obtain ⟨_, _, _, _, _, _, _, _, _, _, _, _, rfl, _⟩ := h; rfl) | (obtain ⟨_, _, _, _, _, _, _, _, _, _, _, _, _, rfl, _⟩ := h; rfl) | (obtain ⟨_, _, _, _, _, _, _, _, _, _, _, _, _, _, rfl, _⟩ := h; rfl) | (obtain ⟨_, _, _, _, _, _, _, _, _, _, _, _, _, _, _, rfl, _⟩ := h; rfl) | (obtain ⟨_, _, _, _, _, _, _, _, _, _, _, _, _, _, _, _, rfl, _⟩ := h; rfl)) (fun cdv A outer s H vs Q E hr h => ⟨t_size K n, ?_, pure_size vs H Q E h⟩)
  have hu := hu_of hr
  exact (pss_one (ps_ret (pe_op op_add pe_int (pe_callB (cr_sum rfl) (by rfl) T.b_sum (by decide +kernel) (pa_cons (pe_lc (own := [("one", 1)]) (g := (gName 1)) (tt := tYes) (te := (tCall (spSize K n) [] C8.E0 (tCons (tVar 1) tNil))) rfl sc_size_of.nd (pi_list (C8.pe_c c_inner_of hr (by omega) rfl (pa_cons (pv 0) pa_nil))) (blkOk_by (N := ["part", "one"]) (sc := defScope s_size_of) (by decide +kernel)) (fun _ _ _ _ _ => (pg_name (i := 1) sc_size_of.nd rfl (Or.inl rfl))) (fun _ _ _ _ _ => pts_nil) (fun _ _ _ _ _ => (C8.pe_c c_size_of hr (by omega) rfl (pa_cons (pv 1) pa_nil)))) pa_nil)))))
theorem ok_Hander_wants {f : Addr} {fd : FuncData} {n : Nat} (F : Fun K "wants" "Hander.wants" s_Hander_wants f fd) (T : Txt K w mg dP es n0 cChk cRms cHan)  (c_Hander_wants : C8.Met P w K mg base (n + 2) cHan "wants" (spWants K cHan n) []) (c_Hander_known : C8.Met P w K mg base (n + 2) cHan "known" (spKnown K cHan n) []) (c_inner_of : C8.Cal P w K mg base (1) "inner_of" (spInner K) []) : FnOk P w K mg base C8.CX0 ((n + 2) + 1) f fd ["self", "part", "funs"] (spWants K cHan (n + 1)) := by
  refine F.ok sc_Hander_wants (fun vs H Q E h => by first | (obtain ⟨_, rfl, _⟩ := h; rfl) | (obtain ⟨_, _, rfl, _⟩ := h; rfl) | (obtain ⟨_, _, _, rfl, _⟩ := h; rfl) | (obtain ⟨_, _, _, _, rfl, _⟩ := h; rfl) | (obtain ⟨_, _, _, _, _, rfl, _⟩ := h; rfl) | (obtain ⟨_, _, _, _, _, _, rfl, _⟩ := h; rfl) | (obtain ⟨_, _, _, _, _, _, _, rfl, _⟩ := h; rfl) | (obtain ⟨_, _, _, _, _, _, _, _, rfl, _⟩ := h; rfl) | (obtain ⟨_, _, _, _, _, _, _, _, _, rfl, _⟩ := h; rfl) | (obtain ⟨_, _, _, _, _, _, _, _, _, _, rfl, _⟩ := h; rfl) | (obtain ⟨_, _, _, _, _, _, _, _, _, _, _, rfl, _⟩ := h; rfl) | (obtain ⟨_, _, _, _, _, _, _, _, _, _, _, _, rfl, _⟩ := h; rfl) | (obtain ⟨_, _, _, _, _, _, _, _, _, _, _, _, _, rfl, _⟩ := h; rfl) | (obtain ⟨_, _, _, _, _, _, _, _, _, _, _, _, _, _, rfl, _⟩ := h; rfl) | (obtain ⟨_, _, _, _, _, _, _, _, _, _, _, _, _, _, _, rfl, _⟩ := h; rfl) | (obtain ⟨_, _, _, _, _, _, _, _, _, _, _, _, _, _, _, _, rfl, _⟩ := h; rfl)) (fun cdv A outer s H vs Q E hr h => ⟨t_wants K P w cHan n, ?_, pure_wants vs H Q E h⟩)
  have hu := hu_of hr
  exact (pss_cons (ps_asg (pe_ix ix_tup (pv 1) pe_int (fun _ _ => rfl)) (pg_name (i := 3) sc_Hander_wants.nd rfl (Or.inl rfl)))
    (pss_cons (ps_if (pt_cmpR op_eq (pv 3) pe_str (nomark _)) (pss_one (ps_ret (pe_lst (pa_cons (pe_ix ix_tup (pv 1) pe_int (fun _ _ => rfl)) pa_nil)))) pss_nil)
    (pss_cons (ps_if (pt_cmpR op_eq (pv 3) pe_str (nomark _)) (pss_cons (ps_setLc (i := 4) (own := [("name", 7)]) (g := (gName 7)) (tt := (tTest (tOp rNe (tVar 7) (tOp (rIxT K) (tVar 1) (tC (.int 1)))))) (te := (tVar 7)) rfl sc_Hander_wants.nd rfl rfl (sw_true rfl rfl rfl (by decide +kernel)) (pi_list (C8.pe_mt c_Hander_wants hr (by omega) (pv 0) (pa_cons (pe_ix ix_tup (pv 1) pe_int (fun _ _ => rfl)) (pa_cons (pv 2) pa_nil)))) (blkOk_by (N := ["self", "part", "funs", "word", "inner", "found", "one", "name"]) (sc := defScope s_Hander_wants) (by decide +kernel)) (fun _ _ _ _ _ => (pg_name (i := 7) sc_Hander_wants.nd rfl (Or.inl rfl))) (fun _ _ _ _ _ => (pts_one (pt_cmpR op_ne (pv 7) (pe_ix ix_tup (pv 1) pe_int (fun _ _ => rfl)) (nomark _)))) (fun _ _ _ _ _ => (pv 7)))
    (pss_one (ps_ret (pe_callB (BNS.cr_sortSetS rfl) (by rfl) T.b_sorted (by decide +kernel) (pa_cons (pe_callTy (BNS.cr_setS rfl) (by rfl) T.b_set (by decide +kernel) (pa_cons (pe_op op_cat (C8.pe_mt c_Hander_wants hr (by omega) (pv 0) (pa_cons (pe_ix ix_tup (pv 1) pe_int (fun _ _ => rfl)) (pa_cons (pv 2) pa_nil))) (pv 4)) pa_nil)) pa_nil))))) pss_nil)
    (pss_cons (ps_if (pt_cmpR op_eq (pv 3) pe_str (nomark _)) (pss_one (ps_ret (C8.pe_mt c_Hander_wants hr (by omega) (pv 0) (pa_cons (pe_ix ix_tup (pv 1) pe_int (fun _ _ => rfl)) (pa_cons (C8.pe_mt c_Hander_known hr (by omega) (pv 0) (pa_cons (pv 1) (pa_cons (pv 2) pa_nil))) pa_nil))))) pss_nil)
    (pss_cons (ps_asg (pe_ifExp (pt_cmpR op_eq (pv 3) pe_str (nomark _)) (pe_callTy call_list_of (by rfl) T.b_list (by decide +kernel) (pa_cons (pe_dget hu (pv 2) (pe_ix ix_tup (pv 1) pe_int (fun _ _ => rfl)) (fun _ _ => rfl)) pa_nil)) (pe_lst pa_nil)) (pg_name (i := 5) sc_Hander_wants.nd rfl (Or.inl rfl)))
    (pss_cons (ps_for PassesOwn.never rfl (pi_list (C8.pe_c c_inner_of hr (by omega) rfl (pa_cons (pv 1) pa_nil))) (pg_name (i := 6) sc_Hander_wants.nd rfl (Or.inl rfl)) (pss_one (ps_expr (pe_bm PySem.F.plainAttrs_list PySem.F.slot_list_extend PySem.F.type_list_extend mt_extend (pv 5) (pa_cons (C8.pe_mt c_Hander_wants hr (by omega) (pv 0) (pa_cons (pv 6) (pa_cons (pv 2) pa_nil))) pa_nil)))))
    (pss_one (ps_ret (pe_callB (BNS.cr_sortSetS rfl) (by rfl) T.b_sorted (by decide +kernel) (pa_cons (pe_callTy (BNS.cr_setS rfl) (by rfl) T.b_set (by decide +kernel) (pa_cons (pv 5) pa_nil)) pa_nil))))))))))
theorem ok_Hander_known {f : Addr} {fd : FuncData} {n : Nat} (F : Fun K "known" "Hander.known" s_Hander_known f fd) (T : Txt K w mg dP es n0 cChk cRms cHan)  (c_Hander_wants : C8.Met P w K mg base (n + 2) cHan "wants" (spWants K cHan n) []) : FnOk P w K mg base C8.CX0 ((n + 2) + 1) f fd ["self", "part", "funs"] (spKnown K cHan (n + 1)) := by
  refine F.ok sc_Hander_known (fun vs H Q E h => by first | (obtain ⟨_, rfl, _⟩ := h; rfl) | (obtain ⟨_, _, rfl, _⟩ := h; rfl) | (obtain ⟨_, _, _, rfl, _⟩ := h; rfl) | (obtain ⟨_, _, _, _, rfl, _⟩ := h; rfl) | (obtain ⟨_, _, _, _, _, rfl, _⟩ := h; rfl) | (obtain ⟨_, _, _, _, _, _, rfl, _⟩ := h; rfl) | (obtain ⟨_, _, _, _, _, _, _, rfl, _⟩ := h; rfl) | (obtain ⟨_, _, _, _, _, _, _, _, rfl, _⟩ := h; rfl) | (obtain ⟨_, _, _, _, _, _, _, _, _, rfl, _⟩ := h; rfl) | (obtain ⟨_, _, _, _, _, _, _, _, _, _, rfl, _⟩ := h; rfl) | (obtain ⟨_, _, _, _, _, _, _, _, _, _, _, rfl, _⟩ := h; rfl) | (obtain ⟨_, _, _, _, _, _, _, _, _, _, _, _, rfl, _⟩ := h; rfl) | (obtain ⟨_, _, _, _, _, _, _, _, _, _, _, _, _, rfl, _⟩ := h; rfl) | (obtain ⟨_, _, _, _, _, _, _, _, _, _, _, _, _, _, rfl, _⟩ := h; rfl) | (obtain ⟨_, _, _, _, _, _, _, _, _, _, _, _, _, _, _, rfl, _⟩ := h; rfl) | (obtain ⟨_, _, _, _, _, _, _, _, _, _, _, _, _, _, _, _, rfl, _⟩ := h; rfl)) (fun cdv A outer s H vs Q E hr h => ⟨t_known K cHan n, ?_, pure_known vs H Q E h⟩)
  have hu := hu_of hr
  exact (pss_cons (ps_asg (pe_callTy call_dictD (by rfl) T.b_dict (by decide +kernel) (pa_cons (pv 2) pa_nil)) (pg_name (i := 3) sc_Hander_known.nd rfl (Or.inl rfl)))
    (pss_cons (ps_dput hu (pv 3) (pe_ix ix_tup (pv 1) pe_int (fun _ _ => rfl)) (pe_lc (own := [("name", 4)]) (g := (gName 4)) (tt := (tTest (tOp (rIn K true) (tVar 4) (tOp (rIxT K) (tVar 1) (tC (.int 2)))))) (te := (tVar 4)) rfl sc_Hander_known.nd (pi_list (C8.pe_mt c_Hander_wants hr (by omega) (pv 0) (pa_cons (pe_ix ix_tup (pv 1) pe_int (fun _ _ => rfl)) (pa_cons (pv 2) pa_nil)))) (blkOk_by (N := ["self", "part", "funs", "found", "name"]) (sc := defScope s_Hander_known) (by decide +kernel)) (fun _ _ _ _ _ => (pg_name (i := 4) sc_Hander_known.nd rfl (Or.inl rfl))) (fun _ _ _ _ _ => (pts_one (pt_cmpR op_notIn_seq (pv 4) (pe_ix ix_tup (pv 1) pe_int (fun _ _ => rfl)) (by rfl)))) (fun _ _ _ _ _ => (pv 4))) rfl)
    (pss_one (ps_ret (pv 3)))))
theorem ok_Hander_made {f : Addr} {fd : FuncData} {n : Nat} (F : Fun K "made" "Hander.made" s_Hander_made f fd) (T : Txt K w mg dP es n0 cChk cRms cHan)  (c_Hander_made : C8.Met P w K mg base (n + 43) cHan "made" (spHMade K cHan n) []) (c_Hander_known : C8.Met P w K mg base (42) cHan "known" (spKnown K cHan 40) []) : FnOk P w K mg base C8.CX0 ((n + 43) + 1) f fd ["self", "part", "funs"] (spHMade K cHan (n + 1)) := by
  refine F.ok sc_Hander_made (fun vs H Q E h => by first | (obtain ⟨_, rfl, _⟩ := h; rfl) | (obtain ⟨_, _, rfl, _⟩ := h; rfl) | (obtain ⟨_, _, _, rfl, _⟩ := h; rfl) | (obtain ⟨_, _, _, _, rfl, _⟩ := h; rfl) | (obtain ⟨_, _, _, _, _, rfl, _⟩ := h; rfl) | (obtain ⟨_, _, _, _, _, _, rfl, _⟩ := h; rfl) | (obtain ⟨_, _, _, _, _, _, _, rfl, _⟩ := h; rfl) | (obtain ⟨_, _, _, _, _, _, _, _, rfl, _⟩ := h; rfl) | (obtain ⟨_, _, _, _, _, _, _, _, _, rfl, _⟩ := h; rfl) | (obtain ⟨_, _, _, _, _, _, _, _, _, _, rfl, _⟩ := h; rfl) | (obtain ⟨_, _, _, _, _, _, _, _, _, _, _, rfl, _⟩ := h; rfl) | (obtain ⟨_, _, _, _, _, _, _, _, _, _, _, _, rfl, _⟩ := h; rfl) | (obtain ⟨_, _, _, _, _, _, _, _, _, _, _, _, _, rfl, _⟩ := h; rfl) | (obtain ⟨_, _, _, _, _, _, _, _, _, _, _, _, _, _, rfl, _⟩ := h; rfl) | (obtain ⟨_, _, _, _, _, _, _, _, _, _, _, _, _, _, _, rfl, _⟩ := h; rfl) | (obtain ⟨_, _, _, _, _, _, _, _, _, _, _, _, _, _, _, _, rfl, _⟩ := h; rfl)) (fun cdv A outer s H vs Q E hr h => ⟨t_hmade K cHan n, ?_, pure_hmade vs H Q E h⟩)
  have hu := hu_of hr
  exact (pss_cons (ps_asg (pe_ix ix_tup (pv 1) pe_int (fun _ _ => rfl)) (pg_name (i := 3) sc_Hander_made.nd rfl (Or.inl rfl)))
    (pss_cons (ps_if (pt_cmpR op_in_seq (pv 3) (pe_tup (pa_cons pe_str (pa_cons pe_str pa_nil))) (by rfl)) (pss_one (ps_ret (pv 1))) pss_nil)
    (pss_cons (ps_if (pt_cmpR op_eq (pv 3) pe_str (nomark _)) (pss_one (ps_ret (pe_tup (pa_cons pe_str (pa_cons (pe_ix ix_tup (pv 1) pe_int (fun _ _ => rfl)) (pa_cons (C8.pe_mt c_Hander_made hr (by omega) (pv 0) (pa_cons (pe_ix ix_tup (pv 1) pe_int (fun _ _ => rfl)) (pa_cons (pv 2) pa_nil))) (pa_cons (C8.pe_mt c_Hander_made hr (by omega) (pv 0) (pa_cons (pe_ix ix_tup (pv 1) pe_int (fun _ _ => rfl)) (pa_cons (pv 2) pa_nil))) pa_nil))))))) pss_nil)
    (pss_cons (ps_if (pt_cmpR op_eq (pv 3) pe_str (nomark _)) (pss_cons (ps_asg (C8.pe_mt c_Hander_known hr (by omega) (pv 0) (pa_cons (pv 1) (pa_cons (pv 2) pa_nil))) (pg_name (i := 4) sc_Hander_made.nd rfl (Or.inl rfl)))
    (pss_cons (ps_asg (pe_op op_catA (pe_ix ix_tup (pv 1) pe_int (fun _ _ => rfl)) (pe_callTy call_tuple_of (by rfl) T.b_tuple (by decide +kernel) (pa_cons (pe_dget hu (pv 4) (pe_ix ix_tup (pv 1) pe_int (fun _ _ => rfl)) (fun _ _ => rfl)) pa_nil))) (pg_name (i := 5) sc_Hander_made.nd rfl (Or.inl rfl)))
    (pss_cons (ps_if (pt_cmpR op_gt (pe_callB call_len_seq (by rfl) T.b_len (by decide +kernel) (pa_cons (pv 5) pa_nil)) (C8.pe_gc (by rfl) T.g_MOST_PARAMS) (nomark _)) (pss_one ps_never) pss_nil)
    (pss_one (ps_ret (pe_tup (pa_cons pe_str (pa_cons (pe_ix ix_tup (pv 1) pe_int (fun _ _ => rfl)) (pa_cons (pv 5) (pa_cons (C8.pe_mt c_Hander_made hr (by omega) (pv 0) (pa_cons (pe_ix ix_tup (pv 1) pe_int (fun _ _ => rfl)) (pa_cons (pv 2) pa_nil))) (pa_cons (C8.pe_mt c_Hander_made hr (by omega) (pv 0) (pa_cons (pe_ix ix_tup (pv 1) pe_int (fun _ _ => rfl)) (pa_cons (pv 4) pa_nil))) pa_nil))))))))))) pss_nil)
    (pss_cons (ps_if (pt_cmpR op_eq (pv 3) pe_str (nomark _)) (pss_cons (ps_asg (pe_callTy call_tuple_of (by rfl) T.b_tuple (by decide +kernel) (pa_cons (pe_lc (own := [("name", 7)]) (g := (gName 7)) (tt := tYes) (te := (tTup (tCons (tC (.str "name")) (tCons (tVar 7) tNil)))) rfl sc_Hander_made.nd (pi_list (pe_dget hu (pv 2) (pe_ix ix_tup (pv 1) pe_int (fun _ _ => rfl)) (fun _ _ => rfl))) (blkOk_by (N := ["self", "part", "funs", "word", "known", "params", "more", "name", "one"]) (sc := defScope s_Hander_made) (by decide +kernel)) (fun _ _ _ _ _ => (pg_name (i := 7) sc_Hander_made.nd rfl (Or.inl rfl))) (fun _ _ _ _ _ => pts_nil) (fun _ _ _ _ _ => (pe_tup (pa_cons pe_str (pa_cons (pv 7) pa_nil))))) pa_nil)) (pg_name (i := 6) sc_Hander_made.nd rfl (Or.inl rfl)))
    (pss_one (ps_ret (pe_tup (pa_cons pe_str (pa_cons (pe_ix ix_tup (pv 1) pe_int (fun _ _ => rfl)) (pa_cons (pe_op op_catA (pe_callTy call_tuple_of (by rfl) T.b_tuple (by decide +kernel) (pa_cons (pe_lc (own := [("one", 8)]) (g := (gName 8)) (tt := tYes) (te := (tMeth cHan "made" (spHMade K cHan n) [] C8.E0 (tVar 0) (tCons (tVar 8) (tCons (tVar 2) tNil)))) rfl sc_Hander_made.nd (pi_tup (pe_ix ix_tup (pv 1) pe_int (fun _ _ => rfl))) (blkOk_by (N := ["self", "part", "funs", "word", "known", "params", "more", "name", "one"]) (sc := defScope s_Hander_made) (by decide +kernel)) (fun _ _ _ _ _ => (pg_name (i := 8) sc_Hander_made.nd rfl (Or.inl rfl))) (fun _ _ _ _ _ => pts_nil) (fun _ _ _ _ _ => (C8.pe_mt c_Hander_made hr (by omega) (pv 0) (pa_cons (pv 8) (pa_cons (pv 2) pa_nil))))) pa_nil)) (pv 6)) pa_nil))))))) pss_nil)
    (pss_one (ps_ret (pe_op op_catT (pe_tup (pa_cons (pv 3) pa_nil)) (pe_callTy call_tuple_of (by rfl) T.b_tuple (by decide +kernel) (pa_cons (pe_lc (own := [("one", 8)]) (g := (gName 8)) (tt := tYes) (te := (tMeth cHan "made" (spHMade K cHan n) [] C8.E0 (tVar 0) (tCons (tVar 8) (tCons (tVar 2) tNil)))) rfl sc_Hander_made.nd (pi_tup (pe_slice sl_tup (pv 1) (po_some pe_int) po_none)) (blkOk_by (N := ["self", "part", "funs", "word", "known", "params", "more", "name", "one"]) (sc := defScope s_Hander_made) (by decide +kernel)) (fun _ _ _ _ _ => (pg_name (i := 8) sc_Hander_made.nd rfl (Or.inl rfl))) (fun _ _ _ _ _ => pts_nil) (fun _ _ _ _ _ => (C8.pe_mt c_Hander_made hr (by omega) (pv 0) (pa_cons (pv 8) (pa_cons (pv 2) pa_nil))))) pa_nil))))))))))
theorem ok_handed {f : Addr} {fd : FuncData}  (F : Fun K "handed" "handed" s_handed f fd) (T : Txt K w mg dP es n0 cChk cRms cHan)  (c_check_program : C8.Cal P w K mg base (23) "check_program" (spCheckP K) []) (c_Hander_made : C8.Met P w K mg base (63) cHan "made" (spHMade K cHan 20) []) (c_size_of : C8.Cal P w K mg base (21) "size_of" (spSize K 20) []) : FnOk P w K mg base C8.CX0 (63 + 1) f fd ["program"] (spHanded K) := by
  refine F.ok sc_handed (fun vs H Q E h => by first | (obtain ⟨_, rfl, _⟩ := h; rfl) | (obtain ⟨_, _, rfl, _⟩ := h; rfl) | (obtain ⟨_, _, _, rfl, _⟩ := h; rfl) | (obtain ⟨_, _, _, _, rfl, _⟩ := h; rfl) | (obtain ⟨_, _, _, _, _, rfl, _⟩ := h; rfl) | (obtain ⟨_, _, _, _, _, _, rfl, _⟩ := h; rfl) | (obtain ⟨_, _, _, _, _, _, _, rfl, _⟩ := h; rfl) | (obtain ⟨_, _, _, _, _, _, _, _, rfl, _⟩ := h; rfl) | (obtain ⟨_, _, _, _, _, _, _, _, _, rfl, _⟩ := h; rfl) | (obtain ⟨_, _, _, _, _, _, _, _, _, _, rfl, _⟩ := h; rfl) | (obtain ⟨_, _, _, _, _, _, _, _, _, _, _, rfl, _⟩ := h; rfl) | (obtain ⟨_, _, _, _, _, _, _, _, _, _, _, _, rfl, _⟩ := h; rfl) | (obtain ⟨_, _, _, _, _, _, _, _, _, _, _, _, _, rfl, _⟩ := h; rfl) | (obtain ⟨_, _, _, _, _, _, _, _, _, _, _, _, _, _, rfl, _⟩ := h; rfl) | (obtain ⟨_, _, _, _, _, _, _, _, _, _, _, _, _, _, _, rfl, _⟩ := h; rfl) | (obtain ⟨_, _, _, _, _, _, _, _, _, _, _, _, _, _, _, _, rfl, _⟩ := h; rfl)) (fun cdv A outer s H vs Q E hr h => ⟨t_handed K cHan, ?_, pure_handed vs H Q E h⟩)
  have hu := hu_of hr
  exact (pss_cons (ps_expr (C8.pe_c c_check_program hr (by omega) rfl (pa_cons (pv 0) pa_nil)))
    (pss_cons (ps_asg (C8.pe_mt c_Hander_made hr (by omega) (BNO.pe_new0 T.han.toNew0 (by rfl) T.m_Hander) (pa_cons (pe_ix ix_tup (pv 0) pe_int (fun _ _ => rfl)) (pa_cons pe_dnewK pa_nil)) (ht := mcall_of (abase_call (by decide)) fun _ => rfl)) (pg_name (i := 1) sc_handed.nd rfl (Or.inl rfl)))
    (pss_cons (ps_if (pt_cmpR op_gt (C8.pe_c c_size_of hr (by omega) rfl (pa_cons (pv 1) pa_nil)) (C8.pe_gc (by rfl) T.g_MOST_PARTS) (nomark _)) (pss_one ps_never) pss_nil)
    (pss_one (ps_ret (pe_tup (pa_cons (pe_ix ix_tup (pv 0) pe_int (fun _ _ => rfl)) (pa_cons (pv 1) pa_nil))))))))
theorem ok_law_closed {f : Addr} {fd : FuncData} {n : Nat} (F : Fun K "_law_closed" "_law_closed" s__law_closed f fd) (T : Txt K w mg dP es n0 cChk cRms cHan)  (c_law_closed : C8.Cal P w K mg base (n + 1) "_law_closed" (spLClosed K n) []) (c_law_inner : C8.Cal P w K mg base (1) "_law_inner" (spInner K) []) : FnOk P w K mg base C8.CX0 ((n + 1) + 1) f fd ["_law_part_here", "_law_names"] (spLClosed K (n + 1)) := by
  refine F.ok sc__law_closed (fun vs H Q E h => by first | (obtain ⟨_, rfl, _⟩ := h; rfl) | (obtain ⟨_, _, rfl, _⟩ := h; rfl) | (obtain ⟨_, _, _, rfl, _⟩ := h; rfl) | (obtain ⟨_, _, _, _, rfl, _⟩ := h; rfl) | (obtain ⟨_, _, _, _, _, rfl, _⟩ := h; rfl) | (obtain ⟨_, _, _, _, _, _, rfl, _⟩ := h; rfl) | (obtain ⟨_, _, _, _, _, _, _, rfl, _⟩ := h; rfl) | (obtain ⟨_, _, _, _, _, _, _, _, rfl, _⟩ := h; rfl) | (obtain ⟨_, _, _, _, _, _, _, _, _, rfl, _⟩ := h; rfl) | (obtain ⟨_, _, _, _, _, _, _, _, _, _, rfl, _⟩ := h; rfl) | (obtain ⟨_, _, _, _, _, _, _, _, _, _, _, rfl, _⟩ := h; rfl) | (obtain ⟨_, _, _, _, _, _, _, _, _, _, _, _, rfl, _⟩ := h; rfl) | (obtain ⟨_, _, _, _, _, _, _, _, _, _, _, _, _, rfl, _⟩ := h; rfl) | (obtain ⟨_, _, _, _, _, _, _, _, _, _, _, _, _, _, rfl, _⟩ := h; rfl) | (obtain ⟨_, _, _, _, _, _, _, _, _, _, _, _, _, _, _, rfl, _⟩ := h; rfl) | (obtain ⟨_, _, _, _, _, _, _, _, _, _, _, _, _, _, _, _, rfl, _⟩ := h; rfl)) (fun cdv A outer s H vs Q E hr h => ⟨t_lclosed K n, ?_, pure_lclosed vs H Q E h⟩)
  have hu := hu_of hr
  exact (pss_cons (ps_asg (pe_ix ix_tup (pv 0) pe_int (fun _ _ => rfl)) (pg_name (i := 2) sc__law_closed.nd rfl (Or.inl rfl)))
    (pss_cons (ps_if (pt_cmpR op_eq (pv 2) pe_str (nomark _)) (pss_one (ps_ret (pe_cmpR op_in_seq (pe_ix ix_tup (pv 0) pe_int (fun _ _ => rfl)) (pv 1) (by rfl)))) pss_nil)
    (pss_cons (ps_if (pt_cmpR op_eq (pv 2) pe_str (nomark _)) (pss_one (ps_ret (pe_and (C8.pe_c c_law_closed hr (by omega) rfl (pa_cons (pe_ix ix_tup (pv 0) pe_int (fun _ _ => rfl)) (pa_cons (pv 1) pa_nil))) (pe_one (C8.pe_c c_law_closed hr (by omega) rfl (pa_cons (pe_ix ix_tup (pv 0) pe_int (fun _ _ => rfl)) (pa_cons (pe_op op_cat (pv 1) (pe_lst (pa_cons (pe_ix ix_tup (pv 0) pe_int (fun _ _ => rfl)) pa_nil))) pa_nil))))))) pss_nil)
    (pss_cons (ps_if (pt_cmpR op_eq (pv 2) pe_str (nomark _)) (pss_one (ps_ret (pe_and (C8.pe_c c_law_closed hr (by omega) rfl (pa_cons (pe_ix ix_tup (pv 0) pe_int (fun _ _ => rfl)) (pa_cons (pe_callTy call_list_of (by rfl) T.b_list (by decide +kernel) (pa_cons (pe_ix ix_tup (pv 0) pe_int (fun _ _ => rfl)) pa_nil)) pa_nil))) (pe_one (C8.pe_c c_law_closed hr (by omega) rfl (pa_cons (pe_ix ix_tup (pv 0) pe_int (fun _ _ => rfl)) (pa_cons (pv 1) pa_nil))))))) pss_nil)
    (pss_one (ps_ret (pe_callB (cr_all rfl) (by rfl) T.b_all (by decide +kernel) (pa_cons (pe_lc (own := [("_law_one", 3)]) (g := (gName 3)) (tt := tYes) (te := (tCall (spLClosed K n) [] C8.E0 (tCons (tVar 3) (tCons (tVar 1) tNil)))) rfl sc__law_closed.nd (pi_list (C8.pe_c c_law_inner hr (by omega) rfl (pa_cons (pv 0) pa_nil))) (blkOk_by (N := ["_law_part_here", "_law_names", "_law_word", "_law_one"]) (sc := defScope s__law_closed) (by decide +kernel)) (fun _ _ _ _ _ => (pg_name (i := 3) sc__law_closed.nd rfl (Or.inl rfl))) (fun _ _ _ _ _ => pts_nil) (fun _ _ _ _ _ => (C8.pe_c c_law_closed hr (by omega) rfl (pa_cons (pv 3) (pa_cons (pv 1) pa_nil))))) pa_nil))))))))
theorem ok_law_funs {f : Addr} {fd : FuncData} {n : Nat} (F : Fun K "_law_funs" "_law_funs" s__law_funs f fd) (T : Txt K w mg dP es n0 cChk cRms cHan)  (c_law_funs : C8.Cal P w K mg base (n + 1) "_law_funs" (spLFuns K n) []) (c_law_inner : C8.Cal P w K mg base (1) "_law_inner" (spInner K) []) : FnOk P w K mg base C8.CX0 ((n + 1) + 1) f fd ["_law_part_here"] (spLFuns K (n + 1)) := by
  refine F.ok sc__law_funs (fun vs H Q E h => by first | (obtain ⟨_, rfl, _⟩ := h; rfl) | (obtain ⟨_, _, rfl, _⟩ := h; rfl) | (obtain ⟨_, _, _, rfl, _⟩ := h; rfl) | (obtain ⟨_, _, _, _, rfl, _⟩ := h; rfl) | (obtain ⟨_, _, _, _, _, rfl, _⟩ := h; rfl) | (obtain ⟨_, _, _, _, _, _, rfl, _⟩ := h; rfl) | (obtain ⟨_, _, _, _, _, _, _, rfl, _⟩ := h; rfl) | (obtain ⟨_, _, _, _, _, _, _, _, rfl, _⟩ := h; rfl) | (obtain ⟨_, _, _, _, _, _, _, _, _, rfl, _⟩ := h; rfl) | (obtain ⟨_, _, _, _, _, _, _, _, _, _, rfl, _⟩ := h; rfl) | (obtain ⟨_, _, _, _, _, _, _, _, _, _, _, rfl, _⟩ := h; rfl) | (obtain ⟨_, _, _, _, _, _, _, _, _, _, _, _, rfl, _⟩ := h; rfl) | (obtain ⟨_, _, _, _, _, _, _, _, _, _, _, _, _, rfl, _⟩ := h; rfl) | (obtain ⟨_, _, _, _, _, _, _, _, _, _, _, _, _, _, rfl, _⟩ := h; rfl) | (obtain ⟨_, _, _, _, _, _, _, _, _, _, _, _, _, _, _, rfl, _⟩ := h; rfl) | (obtain ⟨_, _, _, _, _, _, _, _, _, _, _, _, _, _, _, _, rfl, _⟩ := h; rfl)) (fun cdv A outer s H vs Q E hr h => ⟨t_lfuns K n, ?_, pure_lfuns vs H Q E h⟩)
  have hu := hu_of hr
  exact (pss_cons (ps_asg (pe_lst pa_nil) (pg_name (i := 1) sc__law_funs.nd rfl (Or.inl rfl)))
    (pss_cons (ps_if (pt_cmpR op_eq (pe_ix ix_tup (pv 0) pe_int (fun _ _ => rfl)) pe_str (nomark _)) (pss_one (ps_expr (pe_bm PySem.F.plainAttrs_list PySem.F.slot_list_append PySem.F.type_list_append mt_append (pv 1) (pa_cons (pe_tup (pa_cons (pe_ix ix_tup (pv 0) pe_int (fun _ _ => rfl)) (pa_cons (pe_ix ix_tup (pv 0) pe_int (fun _ _ => rfl)) pa_nil))) pa_nil)))) pss_nil)
    (pss_cons (ps_for PassesOwn.never rfl (pi_list (C8.pe_c c_law_inner hr (by omega) rfl (pa_cons (pv 0) pa_nil))) (pg_name (i := 2) sc__law_funs.nd rfl (Or.inl rfl)) (pss_one (ps_expr (pe_bm PySem.F.plainAttrs_list PySem.F.slot_list_extend PySem.F.type_list_extend mt_extend (pv 1) (pa_cons (C8.pe_c c_law_funs hr (by omega) rfl (pa_cons (pv 2) pa_nil)) pa_nil)))))
    (pss_one (ps_ret (pv 1))))))
theorem ok_law_calls {f : Addr} {fd : FuncData} {n : Nat} (F : Fun K "_law_calls" "_law_calls" s__law_calls f fd) (T : Txt K w mg dP es n0 cChk cRms cHan)  (c_law_calls : C8.Cal P w K mg base (n + 1) "_law_calls" (spCalls K n) []) (c_law_inner : C8.Cal P w K mg base (1) "_law_inner" (spInner K) []) : FnOk P w K mg base C8.CX0 ((n + 1) + 1) f fd ["_law_part_here"] (spCalls K (n + 1)) := by
  refine F.ok sc__law_calls (fun vs H Q E h => by first | (obtain ⟨_, rfl, _⟩ := h; rfl) | (obtain ⟨_, _, rfl, _⟩ := h; rfl) | (obtain ⟨_, _, _, rfl, _⟩ := h; rfl) | (obtain ⟨_, _, _, _, rfl, _⟩ := h; rfl) | (obtain ⟨_, _, _, _, _, rfl, _⟩ := h; rfl) | (obtain ⟨_, _, _, _, _, _, rfl, _⟩ := h; rfl) | (obtain ⟨_, _, _, _, _, _, _, rfl, _⟩ := h; rfl) | (obtain ⟨_, _, _, _, _, _, _, _, rfl, _⟩ := h; rfl) | (obtain ⟨_, _, _, _, _, _, _, _, _, rfl, _⟩ := h; rfl) | (obtain ⟨_, _, _, _, _, _, _, _, _, _, rfl, _⟩ := h; rfl) | (obtain ⟨_, _, _, _, _, _, _, _, _, _, _, rfl, _⟩ := h; rfl) | (obtain ⟨_, _, _, _, _, _, _, _, _, _, _, _, rfl, _⟩ := h; rfl) | (obtain ⟨_, _, _, _, _, _, _, _, _, _, _, _, _, rfl, _⟩ := h; rfl) | (obtain ⟨_, _, _, _, _, _, _, _, _, _, _, _, _, _, rfl, _⟩ := h; rfl) | (obtain ⟨_, _, _, _, _, _, _, _, _, _, _, _, _, _, _, rfl, _⟩ := h; rfl) | (obtain ⟨_, _, _, _, _, _, _, _, _, _, _, _, _, _, _, _, rfl, _⟩ := h; rfl)) (fun cdv A outer s H vs Q E hr h => ⟨t_calls K n, ?_, pure_calls vs H Q E h⟩)
  have hu := hu_of hr
  exact (pss_one (ps_ret (pe_op op_add (pe_callTy call_int1 (by rfl) T.b_int (by decide +kernel) (pa_cons (pe_cmpR op_eq (pe_ix ix_tup (pv 0) pe_int (fun _ _ => rfl)) pe_str (nomark _)) pa_nil)) (pe_callB (cr_sum rfl) (by rfl) T.b_sum (by decide +kernel) (pa_cons (pe_lc (own := [("_law_one", 1)]) (g := (gName 1)) (tt := tYes) (te := (tCall (spCalls K n) [] C8.E0 (tCons (tVar 1) tNil))) rfl sc__law_calls.nd (pi_list (C8.pe_c c_law_inner hr (by omega) rfl (pa_cons (pv 0) pa_nil))) (blkOk_by (N := ["_law_part_here", "_law_one"]) (sc := defScope s__law_calls) (by decide +kernel)) (fun _ _ _ _ _ => (pg_name (i := 1) sc__law_calls.nd rfl (Or.inl rfl))) (fun _ _ _ _ _ => pts_nil) (fun _ _ _ _ _ => (C8.pe_c c_law_calls hr (by omega) rfl (pa_cons (pv 1) pa_nil)))) pa_nil)))))
theorem ok_law_goes_on {f : Addr} {fd : FuncData}  (F : Fun K "_law_goes_on" "_law_goes_on" s__law_goes_on f fd) (T : Txt K w mg dP es n0 cChk cRms cHan)   : FnOk P w K mg base C8.CX0 (0 + 1) f fd ["_law_first", "_law_more"] (spGoesOn K) := by
  refine F.ok sc__law_goes_on (fun vs H Q E h => by first | (obtain ⟨_, rfl, _⟩ := h; rfl) | (obtain ⟨_, _, rfl, _⟩ := h; rfl) | (obtain ⟨_, _, _, rfl, _⟩ := h; rfl) | (obtain ⟨_, _, _, _, rfl, _⟩ := h; rfl) | (obtain ⟨_, _, _, _, _, rfl, _⟩ := h; rfl) | (obtain ⟨_, _, _, _, _, _, rfl, _⟩ := h; rfl) | (obtain ⟨_, _, _, _, _, _, _, rfl, _⟩ := h; rfl) | (obtain ⟨_, _, _, _, _, _, _, _, rfl, _⟩ := h; rfl) | (obtain ⟨_, _, _, _, _, _, _, _, _, rfl, _⟩ := h; rfl) | (obtain ⟨_, _, _, _, _, _, _, _, _, _, rfl, _⟩ := h; rfl) | (obtain ⟨_, _, _, _, _, _, _, _, _, _, _, rfl, _⟩ := h; rfl) | (obtain ⟨_, _, _, _, _, _, _, _, _, _, _, _, rfl, _⟩ := h; rfl) | (obtain ⟨_, _, _, _, _, _, _, _, _, _, _, _, _, rfl, _⟩ := h; rfl) | (obtain ⟨_, _, _, _, _, _, _, _, _, _, _, _, _, _, rfl, _⟩ := h; rfl) | (obtain ⟨_, _, _, _, _, _, _, _, _, _, _, _, _, _, _, rfl, _⟩ := h; rfl) | (obtain ⟨_, _, _, _, _, _, _, _, _, _, _, _, _, _, _, _, rfl, _⟩ := h; rfl)) (fun cdv A outer s H vs Q E hr h => ⟨t_goeson K P w, ?_, pure_goeson vs H Q E h⟩)
  have hu := hu_of hr
  exact (pss_cons (ps_if (pt_cmpR (op_neD hr.units) (pe_lc (own := [("_law_one", 5)]) (g := (gName 5)) (tt := tYes) (te := (tOp (rIxT K) (tVar 5) (tC (.int 0)))) rfl sc__law_goes_on.nd (pi_list (pv 0)) (blkOk_by (N := ["_law_first", "_law_more", "_law_k", "_law_own", "_law_rest", "_law_one", "_law_name"]) (sc := defScope s__law_goes_on) (by decide +kernel)) (fun _ _ _ _ _ => (pg_name (i := 5) sc__law_goes_on.nd rfl (Or.inl rfl))) (fun _ _ _ _ _ => pts_nil) (fun _ _ _ _ _ => (pe_ix ix_tup (pv 5) pe_int (fun _ _ => rfl)))) (pe_lc (own := [("_law_one", 5)]) (g := (gName 5)) (tt := tYes) (te := (tOp (rIxT K) (tVar 5) (tC (.int 0)))) rfl sc__law_goes_on.nd (pi_list (pv 1)) (blkOk_by (N := ["_law_first", "_law_more", "_law_k", "_law_own", "_law_rest", "_law_one", "_law_name"]) (sc := defScope s__law_goes_on) (by decide +kernel)) (fun _ _ _ _ _ => (pg_name (i := 5) sc__law_goes_on.nd rfl (Or.inl rfl))) (fun _ _ _ _ _ => pts_nil) (fun _ _ _ _ _ => (pe_ix ix_tup (pv 5) pe_int (fun _ _ => rfl)))) (nomark _)) (pss_one (ps_ret pe_bl)) pss_nil)
    (pss_cons (ps_for PassesOwn.never rfl (pi_range1 rfl T.b_range (pa_cons (pe_callB call_len_seq (by rfl) T.b_len (by decide +kernel) (pa_cons (pv 0) pa_nil)) pa_nil)) (pg_name (i := 2) sc__law_goes_on.nd rfl (Or.inl rfl)) (pss_cons (ps_asg (pe_ix ix_tup (pe_ix ix_list (pv 0) (pv 2) (fun _ _ => rfl)) pe_int (fun _ _ => rfl)) (pg_name (i := 3) sc__law_goes_on.nd rfl (Or.inr rfl)))
    (pss_cons (ps_asg (pe_callTy call_list_of (by rfl) T.b_list (by decide +kernel) (pa_cons (pe_slice sl_tupA (pe_ix ix_tup (pe_ix ix_list (pv 1) (pv 2) (fun _ _ => rfl)) pe_int (fun _ _ => rfl)) (po_some (pe_callB call_len_seq (by rfl) T.b_len (by decide +kernel) (pa_cons (pv 3) pa_nil))) po_none) pa_nil)) (pg_name (i := 4) sc__law_goes_on.nd rfl (Or.inl rfl)))
    (pss_one (ps_if (PW.pt (pw_or (pt_cmpR (op_neD hr.units) (pe_slice sl_tupA (pe_ix ix_tup (pe_ix ix_list (pv 1) (pv 2) (fun _ _ => rfl)) pe_int (fun _ _ => rfl)) po_none (po_some (pe_callB call_len_seq (by rfl) T.b_len (by decide +kernel) (pa_cons (pv 3) pa_nil)))) (pv 3) (nomark _)) (pw_or (pt_cmpR (op_neD hr.units) (pv 4) (pe_callB (BNS.cr_sortSetS rfl) (by rfl) T.b_sorted (by decide +kernel) (pa_cons (pe_callTy (BNS.cr_setS rfl) (by rfl) T.b_set (by decide +kernel) (pa_cons (pv 4) pa_nil)) pa_nil)) (nomark _)) (pw_or1 (pt_cmpR (op_neD hr.units) (pe_lc (own := [("_law_name", 6)]) (g := (gName 6)) (tt := (tTest (tOp (rIn K false) (tVar 6) (tVar 3)))) (te := (tVar 6)) rfl sc__law_goes_on.nd (pi_list (pv 4)) (blkOk_by (N := ["_law_first", "_law_more", "_law_k", "_law_own", "_law_rest", "_law_one", "_law_name"]) (sc := defScope s__law_goes_on) (by decide +kernel)) (fun _ _ _ _ _ => (pg_name (i := 6) sc__law_goes_on.nd rfl (Or.inl rfl))) (fun _ _ _ _ _ => (pts_one (pt_cmpR op_in_seq (pv 6) (pv 3) (by rfl)))) (fun _ _ _ _ _ => (pv 6))) (pe_lst pa_nil) (nomark _)))))) (pss_one (ps_ret pe_bl)) pss_nil)))))
    (pss_one (ps_ret pe_bl))))
theorem ok_law {f : Addr} {fd : FuncData}  (F : Fun K "law" "law" s_law f fd) (T : Txt K w mg dP es n0 cChk cRms cHan)  (c_law_begun : C8.Cal P w K mg base (1) "_law_begun" (spBegun K) []) (c_law_program : C8.Cal P w K mg base (24) "_law_program" (spProgram K) []) (c_law_numbers : C8.Cal P w K mg base (2) "_law_numbers" (spNumbers K) []) (c_law_run : C8.Cal P w K mg base (133) "_law_run" (spLRun K) []) (c_handed : C8.Cal P w K mg base (64) "handed" (spHanded K) []) (c_run : C8.Cal P w K mg base (134) "run" (spRun K) []) (c_law_size : C8.Cal P w K mg base (21) "_law_size" (spSize K 20) []) (c_law_calls : C8.Cal P w K mg base (21) "_law_calls" (spCalls K 20) []) (c_law_closed : C8.Cal P w K mg base (21) "_law_closed" (spLClosed K 20) []) (c_law_funs : C8.Cal P w K mg base (21) "_law_funs" (spLFuns K 20) []) (c_law_goes_on : C8.Cal P w K mg base (1) "_law_goes_on" (spGoesOn K) []) (c_law_alike : C8.Cal P w K mg base (5) "_law_alike" (spAlike K 5) []) : FnOk P w K mg base C8.CX0 (134 + 1) f fd ["_law_script"] (spLaw K) := by
  refine F.ok sc_law (fun vs H Q E h => by first | (obtain ⟨_, rfl, _⟩ := h; rfl) | (obtain ⟨_, _, rfl, _⟩ := h; rfl) | (obtain ⟨_, _, _, rfl, _⟩ := h; rfl) | (obtain ⟨_, _, _, _, rfl, _⟩ := h; rfl) | (obtain ⟨_, _, _, _, _, rfl, _⟩ := h; rfl) | (obtain ⟨_, _, _, _, _, _, rfl, _⟩ := h; rfl) | (obtain ⟨_, _, _, _, _, _, _, rfl, _⟩ := h; rfl) | (obtain ⟨_, _, _, _, _, _, _, _, rfl, _⟩ := h; rfl) | (obtain ⟨_, _, _, _, _, _, _, _, _, rfl, _⟩ := h; rfl) | (obtain ⟨_, _, _, _, _, _, _, _, _, _, rfl, _⟩ := h; rfl) | (obtain ⟨_, _, _, _, _, _, _, _, _, _, _, rfl, _⟩ := h; rfl) | (obtain ⟨_, _, _, _, _, _, _, _, _, _, _, _, rfl, _⟩ := h; rfl) | (obtain ⟨_, _, _, _, _, _, _, _, _, _, _, _, _, rfl, _⟩ := h; rfl) | (obtain ⟨_, _, _, _, _, _, _, _, _, _, _, _, _, _, rfl, _⟩ := h; rfl) | (obtain ⟨_, _, _, _, _, _, _, _, _, _, _, _, _, _, _, rfl, _⟩ := h; rfl) | (obtain ⟨_, _, _, _, _, _, _, _, _, _, _, _, _, _, _, _, rfl, _⟩ := h; rfl)) (fun cdv A outer s H vs Q E hr h => ⟨t_law11 K, ?_, pure_law11 vs H Q E h⟩)
  have hu := hu_of hr
  exact (pss_cons (ps_asg (C8.pe_c c_law_begun hr (by omega) rfl (pa_cons (pv 0) pa_nil)) (pg_name (i := 1) sc_law.nd rfl (Or.inl rfl)))
    (pss_cons (ps_asg (C8.pe_c c_law_program hr (by omega) rfl (pa_cons (pv 1) (pa_cons pe_int pa_nil))) (pg_name (i := 2) sc_law.nd rfl (Or.inl rfl)))
    (pss_cons (ps_if (pt_cmpR op_gt (pe_op op_add (C8.pe_c c_law_size hr (by omega) rfl (pa_cons (pe_ix ix_tup (pv 2) pe_int (fun _ _ => rfl)) pa_nil)) (pe_op op_mul pe_int (C8.pe_c c_law_calls hr (by omega) rfl (pa_cons (pe_ix ix_tup (pv 2) pe_int (fun _ _ => rfl)) pa_nil)))) pe_int (nomark _)) (pss_one (ps_ret pe_bl)) pss_nil)
    (pss_cons (ps_asg (C8.pe_c c_handed hr (by omega) rfl (pa_cons (pv 2) pa_nil)) (pg_name (i := 3) sc_law.nd rfl (Or.inl rfl)))
    (pss_cons (ps_if (PW.pt (pw_or (pt_not (pt_val (pe_callB call_isi (by rfl) T.b_isinstance (by decide +kernel) (pa_cons (pv 3) (pa_cons (pe_bltn (v := .ty "tuple") (by rfl) T.b_tuple (by decide +kernel) rfl) pa_nil))) (by intro _; rfl))) (pw_or (pt_cmpR op_ne (pe_callB call_len_seq (by rfl) T.b_len (by decide +kernel) (pa_cons (pv 3) pa_nil)) pe_int (nomark _)) (pw_or1 (pt_not (pt_val (C8.pe_c c_law_alike hr (by omega) rfl (pa_cons (pe_ix ix_tup (pv 3) pe_int (fun _ _ => rfl)) (pa_cons (pe_ix ix_tup (pv 2) pe_int (fun _ _ => rfl)) pa_nil))) (by intro _; rfl))))))) (pss_one (ps_ret pe_bl)) pss_nil)
    (pss_cons (ps_if (PW.pt (pw_or (pt_not (pt_val (C8.pe_c c_law_closed hr (by omega) rfl (pa_cons (pe_ix ix_tup (pv 3) pe_int (fun _ _ => rfl)) (pa_cons (pe_callTy call_list_of (by rfl) T.b_list (by decide +kernel) (pa_cons (pe_ix ix_tup (pv 3) pe_int (fun _ _ => rfl)) pa_nil)) pa_nil))) (by intro _; rfl))) (pw_or1 (pt_not (pt_val (C8.pe_c c_law_goes_on hr (by omega) rfl (pa_cons (C8.pe_c c_law_funs hr (by omega) rfl (pa_cons (pe_ix ix_tup (pv 2) pe_int (fun _ _ => rfl)) pa_nil)) (pa_cons (C8.pe_c c_law_funs hr (by omega) rfl (pa_cons (pe_ix ix_tup (pv 3) pe_int (fun _ _ => rfl)) pa_nil)) pa_nil))) (by intro _; rfl)))))) (pss_one (ps_ret pe_bl)) pss_nil)
    (pss_cons (ps_for PassesOwn.never rfl (pi_range1 rfl T.b_range (pa_cons pe_int pa_nil)) (pg_name (i := 4) sc_law.nd rfl (Or.inl rfl)) (pss_cons (ps_asg (C8.pe_c c_law_numbers hr (by omega) rfl (pa_cons (pv 1) (pa_cons (pv 2) pa_nil))) (pg_name (i := 5) sc_law.nd rfl (Or.inl rfl)))
    (pss_cons (ps_asg (C8.pe_c c_law_run hr (by omega) rfl (pa_cons (pv 2) (pa_cons (pv 5) (pa_cons pe_bl pa_nil)))) (pg_tup (by rfl) (pgs_cons (pg_name (i := 6) sc_law.nd rfl (Or.inl rfl)) (pgs_cons (pg_name (i := 7) sc_law.nd rfl (Or.inl rfl)) (pgs_cons (pg_name (i := 8) sc_law.nd rfl (Or.inl rfl)) pgs_nil)))))
    (pss_one (ps_for PassesOwn.never rfl (pi_list (pe_lst (pa_cons pe_str (pa_cons pe_str pa_nil)))) (pg_name (i := 9) sc_law.nd rfl (Or.inl rfl)) (pss_cons (ps_asg (C8.pe_c c_law_run hr (by omega) rfl (pa_cons (pv 3) (pa_cons (pv 5) (pa_cons (pe_cmpR op_eq (pv 9) pe_str (nomark _)) pa_nil)))) (pg_name (i := 10) sc_law.nd rfl (Or.inl rfl)))
    (pss_cons (ps_if (pt_cmpR (op_neD hr.units) (pe_tup (pa_cons (pe_ix ix_tup (pv 10) pe_int (fun _ _ => rfl)) (pa_cons (pe_ix ix_tup (pv 10) pe_int (fun _ _ => rfl)) pa_nil))) (pe_tup (pa_cons (pv 6) (pa_cons (pv 8) pa_nil))) (nomark _)) (pss_one (ps_ret pe_bl)) pss_nil)
    (pss_one (ps_if (pt_not (pt_val (C8.pe_c c_law_alike hr (by omega) rfl (pa_cons (C8.pe_c c_run hr (by omega) rfl (pa_cons (pv 3) (pa_cons (pv 5) (pa_cons (pv 9) pa_nil)))) (pa_cons (pe_tup (pa_cons (pv 6) (pa_cons (pe_callTy call_tuple_of (by rfl) T.b_tuple (by decide +kernel) (pa_cons (pv 8) pa_nil)) pa_nil))) pa_nil))) (by intro _; rfl))) (pss_one (ps_ret pe_bl)) pss_nil)))))))))
    (pss_one (ps_ret pe_bl)))))))))
theorem chain {f : Addr} {fd : FuncData} (F : Fun K "law" "law" s_law f fd) (T : Txt K w mg dP es n0 cChk cRms cHan) (D_law_begun : DefOk K mg "_law_begun" s__law_begun ["_law_script"]) (D_law_take : DefOk K mg "_law_take" s__law_take ["_law_box", "_law_many"]) (D_law_leaf : DefOk K mg "_law_leaf" s__law_leaf ["_law_box", "_law_names"]) (D_law_fun : DefOk K mg "_law_fun" s__law_fun ["_law_box", "_law_deep", "_law_names", "_law_funs_here", "_law_words"]) (D_law_part : DefOk K mg "_law_part" s__law_part ["_law_box", "_law_deep", "_law_names", "_law_funs_here", "_law_words"]) (D_law_inner : DefOk K mg "_law_inner" s__law_inner ["_law_part_here"]) (D_law_size : DefOk K mg "_law_size" s__law_size ["_law_part_here"]) (D_law_program : DefOk K mg "_law_program" s__law_program ["_law_box", "_law_deep"]) (D_law_numbers : DefOk K mg "_law_numbers" s__law_numbers ["_law_box", "_law_program_here"]) (D_law_alike : DefOk K mg "_law_alike" s__law_alike ["_law_found", "_law_due"]) (D_is_word : DefOk K mg "is_word" s_is_word ["word"]) (D_are_words : DefOk K mg "are_words" s_are_words ["words", "most"]) (D_inner_of : DefOk K mg "inner_of" s_inner_of ["part"]) (D_Check_must : MetOk K cChk "must" "Check.must" s_Check_must ["self", "good", "place"]) (D_Check_look : MetOk K cChk "look" "Check.look" s_Check_look ["self", "part", "names", "funs"]) (D_check_program : DefOk K mg "check_program" s_check_program ["program"]) (D_check_run : DefOk K mg "check_run" s_check_run ["program", "numbers", "meaning"]) (D_Rooms_read : MetOk K cRms "read" "Rooms.read" s_Rooms_read ["self", "name", "pile"]) (D_Rooms_work : MetOk K cRms "work" "Rooms.work" s_Rooms_work ["self", "part", "pile", "funs"]) (D_Rooms_call : MetOk K cRms "call" "Rooms.call" s_Rooms_call ["self", "part", "pile", "funs"]) (D_gone : DefOk K mg "gone" s_gone ["program", "numbers", "meaning"]) (D_run : DefOk K mg "run" s_run ["program", "numbers", "meaning"]) (D_law_room : DefOk K mg "_law_room" s__law_room ["_law_names", "_law_numbers_here"]) (D_law_read : DefOk K mg "_law_read" s__law_read ["_law_name", "_law_pile", "_law_told"]) (D_law_work : DefOk K mg "_law_work" s__law_work ["_law_part_here", "_law_pile", "_law_funs_here", "_law_told", "_law_near"]) (D_law_call : DefOk K mg "_law_call" s__law_call ["_law_part_here", "_law_pile", "_law_funs_here", "_law_told", "_law_near"]) (D_law_run : DefOk K mg "_law_run" s__law_run ["_law_program_here", "_law_numbers_here", "_law_near"]) (D_size_of : DefOk K mg "size_of" s_size_of ["part"]) (D_Hander_wants : MetOk K cHan "wants" "Hander.wants" s_Hander_wants ["self", "part", "funs"]) (D_Hander_known : MetOk K cHan "known" "Hander.known" s_Hander_known ["self", "part", "funs"]) (D_Hander_made : MetOk K cHan "made" "Hander.made" s_Hander_made ["self", "part", "funs"]) (D_handed : DefOk K mg "handed" s_handed ["program"]) (D_law_closed : DefOk K mg "_law_closed" s__law_closed ["_law_part_here", "_law_names"]) (D_law_funs : DefOk K mg "_law_funs" s__law_funs ["_law_part_here"]) (D_law_calls : DefOk K mg "_law_calls" s__law_calls ["_law_part_here"]) (D_law_goes_on : DefOk K mg "_law_goes_on" s__law_goes_on ["_law_first", "_law_more"]) (D_Check : MakOk K mg cChk "Check" "Check.__init__" s_Check___init__ ["self"]) (D_Rooms : MakOk K mg cRms "Rooms" "Rooms.__init__" s_Rooms___init__ ["self", "meaning"]) : FnOk P w K mg base C8.CX0 (134 + 1) f fd ["_law_script"] (spLaw K) := by
  have c_Check : C8.Mak P w K mg base (1) "Check" cChk (spChkInit cChk) [] := D_Check.cal fun f fd F => ok_Check___init__ F T
  have c_Rooms : C8.Mak P w K mg base (1) "Rooms" cRms (spRmInit cRms) [] := D_Rooms.cal fun f fd F => ok_Rooms___init__ F T
  have c_law_begun : C8.Cal P w K mg base (0 + 1) "_law_begun" (spBegun K) [] := D_law_begun.cal  fun f fd F => ok_law_begun F T 
  have c_law_take : C8.Cal P w K mg base (0 + 1) "_law_take" (spTake) [] := D_law_take.cal  fun f fd F => ok_law_take F T 
  have c_law_leaf : C8.Cal P w K mg base (1 + 1) "_law_leaf" (spLeaf K) [] := D_law_leaf.cal  fun f fd F => ok_law_leaf F T c_law_take
  have cn_law_part : ∀ n, C8.Cal P w K mg base (2 * n + 3) "_law_part" (spPart K n) [] := fun n => by
    induction n with
    | zero => exact D_law_part.cal  fun f fd F => FnOk.none no_part
    | succ n ih =>
      have c_law_fun : C8.Cal P w K mg base (2 * n + 4) "_law_fun" (spFun K n) [] := D_law_fun.cal  fun f fd F => ok_law_fun F T c_law_take ih c_law_leaf
      have e : 2 * (n + 1) + 3 = 2 * n + 4 + 1 := by omega
      rw [e]
      exact D_law_part.cal  fun f fd F => ok_law_part F T c_law_take ih c_law_leaf c_law_fun
  have c_law_part := cn_law_part 7
  have c_law_inner : C8.Cal P w K mg base (0 + 1) "_law_inner" (spInner K) [] := D_law_inner.cal  fun f fd F => ok_law_inner F T 
  have cn_law_size : ∀ n, C8.Cal P w K mg base (n + 1) "_law_size" (spSize K n) [] := fun n => by
    induction n with
    | zero => exact D_law_size.cal  fun f fd F => FnOk.none no_size
    | succ n ih => exact D_law_size.cal  fun f fd F => ok_law_size F T ih c_law_inner
  have c_law_size := cn_law_size 20
  have c_law_program : C8.Cal P w K mg base (23 + 1) "_law_program" (spProgram K) [] := D_law_program.cal  fun f fd F => ok_law_program F T c_law_take c_law_part c_law_size
  have c_law_numbers : C8.Cal P w K mg base (1 + 1) "_law_numbers" (spNumbers K) [] := D_law_numbers.cal  fun f fd F => ok_law_numbers F T c_law_take
  have cn_law_alike : ∀ n, C8.Cal P w K mg base (n) "_law_alike" (spAlike K n) [] := fun n => by
    induction n with
    | zero => exact D_law_alike.cal  fun f fd F => FnOk.none no_alike
    | succ n ih => exact D_law_alike.cal  fun f fd F => ok_law_alike F T ih
  have c_law_alike := cn_law_alike 5
  have c_is_word : C8.Cal P w K mg base (0 + 1) "is_word" (spIsWord K) [] := D_is_word.cal  fun f fd F => ok_is_word F T 
  have c_are_words : C8.Cal P w K mg base (1 + 1) "are_words" (spAreWords K) [] := D_are_words.cal  fun f fd F => ok_are_words F T c_is_word
  have c_inner_of : C8.Cal P w K mg base (0 + 1) "inner_of" (spInner K) [] := D_inner_of.cal  fun f fd F => ok_inner_of F T 
  have c_Check_must : C8.Met P w K mg base (0 + 1) cChk "must" (spMust) [] := D_Check_must.cal T.chk.cl  fun f fd F => ok_Check_must F T 
  have cn_Check_look : ∀ n, C8.Met P w K mg base (n + 2) cChk "look" (spLook K cChk n) [] := fun n => by
    induction n with
    | zero => exact D_Check_look.cal T.chk.cl  fun f fd F => FnOk.none no_look
    | succ n ih => exact D_Check_look.cal T.chk.cl  fun f fd F => ok_Check_look F T c_is_word c_are_words c_inner_of c_Check_must ih
  have c_Check_look := cn_Check_look 20
  have c_check_program : C8.Cal P w K mg base (22 + 1) "check_program" (spCheckP K) [] := D_check_program.cal  fun f fd F => ok_check_program F T c_are_words c_Check c_Check_must c_Check_look
  have c_check_run : C8.Cal P w K mg base (23 + 1) "check_run" (spCheckR K) [] := D_check_run.cal  fun f fd F => ok_check_run F T c_check_program
  have c_Rooms_read : C8.Met P w K mg base (0 + 1) cRms "read" (spRead K cRms) [] := D_Rooms_read.cal T.rms.cl  fun f fd F => ok_Rooms_read F T 
  have c_Rooms_work2 : ∀ n, C8.Met P w K mg base (n + 2) cRms "work" (spWork K cRms n) [] ∧ C8.Met P w K mg base (n + 2) cRms "call" (spRCall K cRms n) [] := fun n => by
    induction n with
    | zero => exact ⟨D_Rooms_work.cal T.rms.cl  fun f fd F => FnOk.none no_work, D_Rooms_call.cal T.rms.cl  fun f fd F => FnOk.none no_rcall⟩
    | succ n ih => exact ⟨D_Rooms_work.cal T.rms.cl  fun f fd F => ok_Rooms_work F T c_Rooms_read ih.2 ih.1, D_Rooms_call.cal T.rms.cl  fun f fd F => ok_Rooms_call F T ih.1⟩
  have c_Rooms_work := (c_Rooms_work2 130).1
  have c_gone : C8.Cal P w K mg base (132 + 1) "gone" (spGone K cRms) [] := D_gone.cal  fun f fd F => ok_gone F T c_Rooms c_Rooms_work
  have c_run : C8.Cal P w K mg base (133 + 1) "run" (spRun K) [] := D_run.cal  fun f fd F => ok_run F T c_check_run c_gone
  have c_law_room : C8.Cal P w K mg base (0 + 1) "_law_room" (spLRoom K) [] := D_law_room.cal  fun f fd F => ok_law_room F T 
  have c_law_read : C8.Cal P w K mg base (0 + 1) "_law_read" (spLRead K) [] := D_law_read.cal  fun f fd F => ok_law_read F T 
  have c_law_work2 : ∀ n, C8.Cal P w K mg base (n + 2) "_law_work" (spLWork K n) [] ∧ C8.Cal P w K mg base (n + 2) "_law_call" (spLCall K n) [] := fun n => by
    induction n with
    | zero => exact ⟨D_law_work.cal  fun f fd F => FnOk.none no_lwork, D_law_call.cal  fun f fd F => FnOk.none no_lcall⟩
    | succ n ih => exact ⟨D_law_work.cal  fun f fd F => ok_law_work F T c_law_read ih.2 ih.1, D_law_call.cal  fun f fd F => ok_law_call F T ih.1 c_law_room⟩
  have c_law_work := (c_law_work2 130).1
  have c_law_run : C8.Cal P w K mg base (132 + 1) "_law_run" (spLRun K) [] := D_law_run.cal  fun f fd F => ok_law_run F T c_law_room c_law_work
  have cn_size_of : ∀ n, C8.Cal P w K mg base (n + 1) "size_of" (spSize K n) [] := fun n => by
    induction n with
    | zero => exact D_size_of.cal  fun f fd F => FnOk.none no_size
    | succ n ih => exact D_size_of.cal  fun f fd F => ok_size_of F T ih c_inner_of
  have c_size_of := cn_size_of 20
  have c_Hander_wants2 : ∀ n, C8.Met P w K mg base (n + 2) cHan "wants" (spWants K cHan n) [] ∧ C8.Met P w K mg base (n + 2) cHan "known" (spKnown K cHan n) [] := fun n => by
    induction n with
    | zero => exact ⟨D_Hander_wants.cal T.han.cl  fun f fd F => FnOk.none no_wants, D_Hander_known.cal T.han.cl  fun f fd F => FnOk.none no_known⟩
    | succ n ih => exact ⟨D_Hander_wants.cal T.han.cl  fun f fd F => ok_Hander_wants F T ih.1 ih.2 c_inner_of, D_Hander_known.cal T.han.cl  fun f fd F => ok_Hander_known F T ih.1⟩
  have c_Hander_wants := (c_Hander_wants2 40).1
  have c_Hander_known := (c_Hander_wants2 40).2
  have cn_Hander_made : ∀ n, C8.Met P w K mg base (n + 43) cHan "made" (spHMade K cHan n) [] := fun n => by
    induction n with
    | zero => exact D_Hander_made.cal T.han.cl  fun f fd F => FnOk.none no_hmade
    | succ n ih => exact D_Hander_made.cal T.han.cl  fun f fd F => ok_Hander_made F T ih c_Hander_known
  have c_Hander_made := cn_Hander_made 20
  have c_handed : C8.Cal P w K mg base (63 + 1) "handed" (spHanded K) [] := D_handed.cal  fun f fd F => ok_handed F T c_check_program c_Hander_made c_size_of
  have cn_law_closed : ∀ n, C8.Cal P w K mg base (n + 1) "_law_closed" (spLClosed K n) [] := fun n => by
    induction n with
    | zero => exact D_law_closed.cal  fun f fd F => FnOk.none no_lclosed
    | succ n ih => exact D_law_closed.cal  fun f fd F => ok_law_closed F T ih c_law_inner
  have c_law_closed := cn_law_closed 20
  have cn_law_funs : ∀ n, C8.Cal P w K mg base (n + 1) "_law_funs" (spLFuns K n) [] := fun n => by
    induction n with
    | zero => exact D_law_funs.cal  fun f fd F => FnOk.none no_lfuns
    | succ n ih => exact D_law_funs.cal  fun f fd F => ok_law_funs F T ih c_law_inner
  have c_law_funs := cn_law_funs 20
  have cn_law_calls : ∀ n, C8.Cal P w K mg base (n + 1) "_law_calls" (spCalls K n) [] := fun n => by
    induction n with
    | zero => exact D_law_calls.cal  fun f fd F => FnOk.none no_calls
    | succ n ih => exact D_law_calls.cal  fun f fd F => ok_law_calls F T ih c_law_inner
  have c_law_calls := cn_law_calls 20
  have c_law_goes_on : C8.Cal P w K mg base (0 + 1) "_law_goes_on" (spGoesOn K) [] := D_law_goes_on.cal  fun f fd F => ok_law_goes_on F T 
  exact ok_law F T c_law_begun c_law_program c_law_numbers c_law_run c_handed c_run c_law_size c_law_calls c_law_closed c_law_funs c_law_goes_on c_law_alike
end
end BN
open PySem PySem.W PyProof.Rows
set_option maxRecDepth 100000 in
set_option maxHeartbeats 0 in
theorem PySem.Challenge.cw_bindnear_k11_whole_names_handed_on_holds : PySem.Challenge.rw_bindnear_k11_whole_names_handed_on.Holds := by
  w_on; o_law; k_head; (case hw => w_witness2)
  k_fill
  refine L2.walk_of (n := 63) (k := 134 + 1) (x := "_law_script") (CX := fun _ => C8.CX0) (sp := fun w => BN.spLaw _) rfl (by decide) rfl ⟨rfl, by decide, by decide⟩ (fun w h Y => PySem.W.kIn_of Y) ?F (fun _ _ a ns hl _ hS => ⟨a, ns, rfl, hS, hl, fun _ => rfl⟩) fun _ _ _ _ _ z => z
  case F =>
    intro w mg fa h KX G hmg
    have D_law_begun : BN.DefOkX KX mg "_law_begun" BN.s__law_begun ["_law_script"] := by
      refine' BN.DefOk.of KX G ?a ?l ?c ?k ?b
      (case a => k_is); (case l => k_is); (case c => k_is); (case k => k_is); (case b => exact fun _ _ _ _ _ _ us hl => match us, hl with | [_], _ => rfl)
    have D_law_take : BN.DefOkX KX mg "_law_take" BN.s__law_take ["_law_box", "_law_many"] := by
      refine' BN.DefOk.of KX G ?a ?l ?c ?k ?b
      (case a => k_is); (case l => k_is); (case c => k_is); (case k => k_is); (case b => exact fun _ _ _ _ _ _ us hl => match us, hl with | [_, _], _ => rfl)
    have D_law_leaf : BN.DefOkX KX mg "_law_leaf" BN.s__law_leaf ["_law_box", "_law_names"] := by
      refine' BN.DefOk.of KX G ?a ?l ?c ?k ?b
      (case a => k_is); (case l => k_is); (case c => k_is); (case k => k_is); (case b => exact fun _ _ _ _ _ _ us hl => match us, hl with | [_, _], _ => rfl)
    have D_law_fun : BN.DefOkX KX mg "_law_fun" BN.s__law_fun ["_law_box", "_law_deep", "_law_names", "_law_funs_here", "_law_words"] := by
      refine' BN.DefOk.of KX G ?a ?l ?c ?k ?b
      (case a => k_is); (case l => k_is); (case c => k_is); (case k => k_is); (case b => exact fun _ _ _ _ _ _ us hl => match us, hl with | [_, _, _, _, _], _ => rfl)
    have D_law_part : BN.DefOkX KX mg "_law_part" BN.s__law_part ["_law_box", "_law_deep", "_law_names", "_law_funs_here", "_law_words"] := by
      refine' BN.DefOk.of KX G ?a ?l ?c ?k ?b
      (case a => k_is); (case l => k_is); (case c => k_is); (case k => k_is); (case b => exact fun _ _ _ _ _ _ us hl => match us, hl with | [_, _, _, _, _], _ => rfl)
    have D_law_inner : BN.DefOkX KX mg "_law_inner" BN.s__law_inner ["_law_part_here"] := by
      refine' BN.DefOk.of KX G ?a ?l ?c ?k ?b
      (case a => k_is); (case l => k_is); (case c => k_is); (case k => k_is); (case b => exact fun _ _ _ _ _ _ us hl => match us, hl with | [_], _ => rfl)
    have D_law_size : BN.DefOkX KX mg "_law_size" BN.s__law_size ["_law_part_here"] := by
      refine' BN.DefOk.of KX G ?a ?l ?c ?k ?b
      (case a => k_is); (case l => k_is); (case c => k_is); (case k => k_is); (case b => exact fun _ _ _ _ _ _ us hl => match us, hl with | [_], _ => rfl)
    have D_law_program : BN.DefOkX KX mg "_law_program" BN.s__law_program ["_law_box", "_law_deep"] := by
      refine' BN.DefOk.of KX G ?a ?l ?c ?k ?b
      (case a => k_is); (case l => k_is); (case c => k_is); (case k => k_is); (case b => exact fun _ _ _ _ _ _ us hl => match us, hl with | [_, _], _ => rfl)
    have D_law_numbers : BN.DefOkX KX mg "_law_numbers" BN.s__law_numbers ["_law_box", "_law_program_here"] := by
      refine' BN.DefOk.of KX G ?a ?l ?c ?k ?b
      (case a => k_is); (case l => k_is); (case c => k_is); (case k => k_is); (case b => exact fun _ _ _ _ _ _ us hl => match us, hl with | [_, _], _ => rfl)
    have D_law_alike : BN.DefOkX KX mg "_law_alike" BN.s__law_alike ["_law_found", "_law_due"] := by
      refine' BN.DefOk.of KX G ?a ?l ?c ?k ?b
      (case a => k_is); (case l => k_is); (case c => k_is); (case k => k_is); (case b => exact fun _ _ _ _ _ _ us hl => match us, hl with | [_, _], _ => rfl)
    have D_is_word : BN.DefOkX KX mg "is_word" BN.s_is_word ["word"] := by
      refine' BN.DefOk.of KX G ?a ?l ?c ?k ?b
      (case a => k_is); (case l => k_is); (case c => k_is); (case k => k_is); (case b => exact fun _ _ _ _ _ _ us hl => match us, hl with | [_], _ => rfl)
    have D_are_words : BN.DefOkX KX mg "are_words" BN.s_are_words ["words", "most"] := by
      refine' BN.DefOk.of KX G ?a ?l ?c ?k ?b
      (case a => k_is); (case l => k_is); (case c => k_is); (case k => k_is); (case b => exact fun _ _ _ _ _ _ us hl => match us, hl with | [_, _], _ => rfl)
    have D_inner_of : BN.DefOkX KX mg "inner_of" BN.s_inner_of ["part"] := by
      refine' BN.DefOk.of KX G ?a ?l ?c ?k ?b
      (case a => k_is); (case l => k_is); (case c => k_is); (case k => k_is); (case b => exact fun _ _ _ _ _ _ us hl => match us, hl with | [_], _ => rfl)
    have D_check_program : BN.DefOkX KX mg "check_program" BN.s_check_program ["program"] := by
      refine' BN.DefOk.of KX G ?a ?l ?c ?k ?b
      (case a => k_is); (case l => k_is); (case c => k_is); (case k => k_is); (case b => exact fun _ _ _ _ _ _ us hl => match us, hl with | [_], _ => rfl)
    have D_check_run : BN.DefOkX KX mg "check_run" BN.s_check_run ["program", "numbers", "meaning"] := by
      refine' BN.DefOk.of KX G ?a ?l ?c ?k ?b
      (case a => k_is); (case l => k_is); (case c => k_is); (case k => k_is); (case b => exact fun _ _ _ _ _ _ us hl => match us, hl with | [_, _, _], _ => rfl)
    have D_gone : BN.DefOkX KX mg "gone" BN.s_gone ["program", "numbers", "meaning"] := by
      refine' BN.DefOk.of KX G ?a ?l ?c ?k ?b
      (case a => k_is); (case l => k_is); (case c => k_is); (case k => k_is); (case b => exact fun _ _ _ _ _ _ us hl => match us, hl with | [_, _, _], _ => rfl)
    have D_run : BN.DefOkX KX mg "run" BN.s_run ["program", "numbers", "meaning"] := by
      refine' BN.DefOk.of KX G ?a ?l ?c ?k ?b
      (case a => k_is); (case l => k_is); (case c => k_is); (case k => k_is); (case b => exact fun _ _ _ _ _ _ us hl => match us, hl with | [_, _, _], _ => rfl)
    have D_law_room : BN.DefOkX KX mg "_law_room" BN.s__law_room ["_law_names", "_law_numbers_here"] := by
      refine' BN.DefOk.of KX G ?a ?l ?c ?k ?b
      (case a => k_is); (case l => k_is); (case c => k_is); (case k => k_is); (case b => exact fun _ _ _ _ _ _ us hl => match us, hl with | [_, _], _ => rfl)
    have D_law_read : BN.DefOkX KX mg "_law_read" BN.s__law_read ["_law_name", "_law_pile", "_law_told"] := by
      refine' BN.DefOk.of KX G ?a ?l ?c ?k ?b
      (case a => k_is); (case l => k_is); (case c => k_is); (case k => k_is); (case b => exact fun _ _ _ _ _ _ us hl => match us, hl with | [_, _, _], _ => rfl)
    have D_law_work : BN.DefOkX KX mg "_law_work" BN.s__law_work ["_law_part_here", "_law_pile", "_law_funs_here", "_law_told", "_law_near"] := by
      refine' BN.DefOk.of KX G ?a ?l ?c ?k ?b
      (case a => k_is); (case l => k_is); (case c => k_is); (case k => k_is); (case b => exact fun _ _ _ _ _ _ us hl => match us, hl with | [_, _, _, _, _], _ => rfl)
    have D_law_call : BN.DefOkX KX mg "_law_call" BN.s__law_call ["_law_part_here", "_law_pile", "_law_funs_here", "_law_told", "_law_near"] := by
      refine' BN.DefOk.of KX G ?a ?l ?c ?k ?b
      (case a => k_is); (case l => k_is); (case c => k_is); (case k => k_is); (case b => exact fun _ _ _ _ _ _ us hl => match us, hl with | [_, _, _, _, _], _ => rfl)
    have D_law_run : BN.DefOkX KX mg "_law_run" BN.s__law_run ["_law_program_here", "_law_numbers_here", "_law_near"] := by
      refine' BN.DefOk.of KX G ?a ?l ?c ?k ?b
      (case a => k_is); (case l => k_is); (case c => k_is); (case k => k_is); (case b => exact fun _ _ _ _ _ _ us hl => match us, hl with | [_, _, _], _ => rfl)
    have D_size_of : BN.DefOkX KX mg "size_of" BN.s_size_of ["part"] := by
      refine' BN.DefOk.of KX G ?a ?l ?c ?k ?b
      (case a => k_is); (case l => k_is); (case c => k_is); (case k => k_is); (case b => exact fun _ _ _ _ _ _ us hl => match us, hl with | [_], _ => rfl)
    have D_handed : BN.DefOkX KX mg "handed" BN.s_handed ["program"] := by
      refine' BN.DefOk.of KX G ?a ?l ?c ?k ?b
      (case a => k_is); (case l => k_is); (case c => k_is); (case k => k_is); (case b => exact fun _ _ _ _ _ _ us hl => match us, hl with | [_], _ => rfl)
    have D_law_closed : BN.DefOkX KX mg "_law_closed" BN.s__law_closed ["_law_part_here", "_law_names"] := by
      refine' BN.DefOk.of KX G ?a ?l ?c ?k ?b
      (case a => k_is); (case l => k_is); (case c => k_is); (case k => k_is); (case b => exact fun _ _ _ _ _ _ us hl => match us, hl with | [_, _], _ => rfl)
    have D_law_funs : BN.DefOkX KX mg "_law_funs" BN.s__law_funs ["_law_part_here"] := by
      refine' BN.DefOk.of KX G ?a ?l ?c ?k ?b
      (case a => k_is); (case l => k_is); (case c => k_is); (case k => k_is); (case b => exact fun _ _ _ _ _ _ us hl => match us, hl with | [_], _ => rfl)
    have D_law_calls : BN.DefOkX KX mg "_law_calls" BN.s__law_calls ["_law_part_here"] := by
      refine' BN.DefOk.of KX G ?a ?l ?c ?k ?b
      (case a => k_is); (case l => k_is); (case c => k_is); (case k => k_is); (case b => exact fun _ _ _ _ _ _ us hl => match us, hl with | [_], _ => rfl)
    have D_law_goes_on : BN.DefOkX KX mg "_law_goes_on" BN.s__law_goes_on ["_law_first", "_law_more"] := by
      refine' BN.DefOk.of KX G ?a ?l ?c ?k ?b
      (case a => k_is); (case l => k_is); (case c => k_is); (case k => k_is); (case b => exact fun _ _ _ _ _ _ us hl => match us, hl with | [_, _], _ => rfl)
    obtain ⟨dP, es, n0, PT, gP⟩ : ∃ (dP : Addr) (es : Array DictEntry) (n : Nat), BN.PTabX KX w dP es n ∧ ∃ u, mg "PARTS" = some u ∧ L2.RelV (.ref dP) u := by
      refine' BN.ptab_of KX G ?a ?D ?kl ?low ?k1 ?k2 ?k3 ?k4 ?k5 ?k6 ?k7 ?k8 ?k9 ?r1 ?r2 ?r3 ?r4 ?r5 ?r6 ?r7 ?r8 ?r9
      (case a => k_is); (case D => k_is)
      (case kl => exact ⟨⟨_, _, rfl, rfl⟩, ⟨_, _, rfl, rfl⟩, ⟨_, _, rfl, rfl⟩, ⟨_, _, rfl, rfl⟩, ⟨_, _, rfl, rfl⟩, ⟨_, _, rfl, rfl⟩, ⟨_, _, rfl, rfl⟩, ⟨_, _, rfl, rfl⟩, ⟨_, _, rfl, rfl⟩, trivial⟩)
      (case low => first | rfl | decide)
      (case k1 => k_is); (case k2 => k_is); (case k3 => k_is); (case k4 => k_is); (case k5 => k_is); (case k6 => k_is); (case k7 => k_is); (case k8 => k_is); (case k9 => k_is)
      all_goals exact ⟨_, rfl⟩
    obtain ⟨cChk, H_cChk, D_Check, D_Check_must, D_Check_look⟩ : ∃ cChk : Addr, BN.ChkCX KX cChk ∧ BN.MakOkX KX mg cChk "Check" "Check.__init__" BN.s_Check___init__ ["self"] ∧ BN.MetOkX KX cChk "must" "Check.must" BN.s_Check_must ["self", "good", "place"] ∧ BN.MetOkX KX cChk "look" "Check.look" BN.s_Check_look ["self", "part", "names", "funs"] := by
      refine' ⟨_, ⟨⟨?pg, ?hd, ?po, ?sa⟩, ?n0⟩, BN.MakOk.of (PySem.W.mg_of KX G ?aC) ?mk ?kc ?a0 ?i0 ?l0 ?c0 ?k0 ?b0, BN.MetOk.of ?a1 ?i1 ?l1 ?c1 ?k1 ?b1, BN.MetOk.of ?a2 ?i2 ?l2 ?c2 ?k2 ?b2⟩
      (case aC => k_is); (case pg => k_is); (case hd => k_is); (case po => k_is); (case sa => k_is); (case mk => k_is); (case kc => k_is)
      (case n0 => unfold L2.NoAttr; k_is)
      (case a0 => k_is); (case i0 => k_is); (case l0 => k_is); (case c0 => k_is); (case k0 => k_is); (case b0 => exact fun _ _ _ _ _ _ us hl => match us, hl with | [_], _ => rfl)
      (case a1 => k_is); (case i1 => k_is); (case l1 => k_is); (case c1 => k_is); (case k1 => k_is); (case b1 => exact fun _ _ _ _ _ _ us hl => match us, hl with | [_, _, _], _ => rfl)
      (case a2 => k_is); (case i2 => k_is); (case l2 => k_is); (case c2 => k_is); (case k2 => k_is); (case b2 => exact fun _ _ _ _ _ _ us hl => match us, hl with | [_, _, _, _], _ => rfl)
    obtain ⟨cRms, H_cRms, D_Rooms, D_Rooms_read, D_Rooms_work, D_Rooms_call⟩ : ∃ cRms : Addr, BN.RmsCX KX cRms ∧ BN.MakOkX KX mg cRms "Rooms" "Rooms.__init__" BN.s_Rooms___init__ ["self", "meaning"] ∧ BN.MetOkX KX cRms "read" "Rooms.read" BN.s_Rooms_read ["self", "name", "pile"] ∧ BN.MetOkX KX cRms "work" "Rooms.work" BN.s_Rooms_work ["self", "part", "pile", "funs"] ∧ BN.MetOkX KX cRms "call" "Rooms.call" BN.s_Rooms_call ["self", "part", "pile", "funs"] := by
      refine' ⟨_, ⟨⟨?pg, ?hd, ?po, ?sa⟩, ?n0, ?n1, ?n2⟩, BN.MakOk.of (PySem.W.mg_of KX G ?aC) ?mk ?kc ?a0 ?i0 ?l0 ?c0 ?k0 ?b0, BN.MetOk.of ?a1 ?i1 ?l1 ?c1 ?k1 ?b1, BN.MetOk.of ?a2 ?i2 ?l2 ?c2 ?k2 ?b2, BN.MetOk.of ?a3 ?i3 ?l3 ?c3 ?k3 ?b3⟩
      (case aC => k_is); (case pg => k_is); (case hd => k_is); (case po => k_is); (case sa => k_is); (case mk => k_is); (case kc => k_is)
      (case n0 => unfold L2.NoAttr; k_is); (case n1 => unfold L2.NoAttr; k_is); (case n2 => unfold L2.NoAttr; k_is)
      (case a0 => k_is); (case i0 => k_is); (case l0 => k_is); (case c0 => k_is); (case k0 => k_is); (case b0 => exact fun _ _ _ _ _ _ us hl => match us, hl with | [_, _], _ => rfl)
      (case a1 => k_is); (case i1 => k_is); (case l1 => k_is); (case c1 => k_is); (case k1 => k_is); (case b1 => exact fun _ _ _ _ _ _ us hl => match us, hl with | [_, _, _], _ => rfl)
      (case a2 => k_is); (case i2 => k_is); (case l2 => k_is); (case c2 => k_is); (case k2 => k_is); (case b2 => exact fun _ _ _ _ _ _ us hl => match us, hl with | [_, _, _, _], _ => rfl)
      (case a3 => k_is); (case i3 => k_is); (case l3 => k_is); (case c3 => k_is); (case k3 => k_is); (case b3 => exact fun _ _ _ _ _ _ us hl => match us, hl with | [_, _, _, _], _ => rfl)
    obtain ⟨cHan, H_cHan, m_Hander, D_Hander_wants, D_Hander_known, D_Hander_made⟩ : ∃ cHan : Addr, BN.HanCX KX cHan ∧ mg "Hander" = some (.ref cHan) ∧ BN.MetOkX KX cHan "wants" "Hander.wants" BN.s_Hander_wants ["self", "part", "funs"] ∧ BN.MetOkX KX cHan "known" "Hander.known" BN.s_Hander_known ["self", "part", "funs"] ∧ BN.MetOkX KX cHan "made" "Hander.made" BN.s_Hander_made ["self", "part", "funs"] := by
      refine' ⟨_, ⟨⟨?mk, ?ini, ?kc⟩, ⟨?pg, ?hd, ?po, ?sa⟩⟩, PySem.W.mg_of KX G ?aC, BN.MetOk.of ?a1 ?i1 ?l1 ?c1 ?k1 ?b1, BN.MetOk.of ?a2 ?i2 ?l2 ?c2 ?k2 ?b2, BN.MetOk.of ?a3 ?i3 ?l3 ?c3 ?k3 ?b3⟩
      (case aC => k_is); (case pg => k_is); (case hd => k_is); (case po => k_is); (case sa => k_is); (case mk => k_is); (case ini => k_is); (case kc => k_is)
      (case a1 => k_is); (case i1 => k_is); (case l1 => k_is); (case c1 => k_is); (case k1 => k_is); (case b1 => exact fun _ _ _ _ _ _ us hl => match us, hl with | [_, _, _], _ => rfl)
      (case a2 => k_is); (case i2 => k_is); (case l2 => k_is); (case c2 => k_is); (case k2 => k_is); (case b2 => exact fun _ _ _ _ _ _ us hl => match us, hl with | [_, _, _], _ => rfl)
      (case a3 => k_is); (case i3 => k_is); (case l3 => k_is); (case c3 => k_is); (case k3 => k_is); (case b3 => exact fun _ _ _ _ _ _ us hl => match us, hl with | [_, _, _], _ => rfl)
    have T : BN.TxtX KX w mg dP es n0 cChk cRms cHan := by
      refine' ⟨PySem.W.mg_none_of KX G ?b_range, PySem.W.mg_none_of KX G ?b_len, PySem.W.mg_none_of KX G ?b_int, PySem.W.mg_none_of KX G ?b_bool, PySem.W.mg_none_of KX G ?b_str, PySem.W.mg_none_of KX G ?b_list, PySem.W.mg_none_of KX G ?b_tuple, PySem.W.mg_none_of KX G ?b_sum, PySem.W.mg_none_of KX G ?b_isinstance, PySem.W.mg_none_of KX G ?b_all, PySem.W.mg_none_of KX G ?b_set, PySem.W.mg_none_of KX G ?b_dict, PySem.W.mg_none_of KX G ?b_zip, PySem.W.mg_none_of KX G ?b_sorted, PySem.W.mg_none_of KX G ?b_enumerate, PySem.W.mg_none_of KX G ?b_reversed, PySem.W.mg_none_of KX G ?b_min, BN.glob_of KX G ?g_SMALL ?r_SMALL, BN.glob_of KX G ?g_MOST_SIGNS ?r_MOST_SIGNS, BN.glob_of KX G ?g_MOST_NUMBER ?r_MOST_NUMBER, BN.glob_of KX G ?g_MOST_INPUTS ?r_MOST_INPUTS, BN.glob_of KX G ?g_MOST_PARAMS ?r_MOST_PARAMS, BN.glob_of KX G ?g_MOST_PARTS ?r_MOST_PARTS, BN.glob_of KX G ?g_NEAR ?r_NEAR, BN.glob_of KX G ?g_CALLED ?r_CALLED, BN.glob_of KX G ?g_WHEEL ?r_WHEEL, gP, PT, PT.kd, H_cChk, H_cRms, H_cHan, m_Hander⟩
      (case b_range => k_is)
      (case b_len => k_is)
      (case b_int => k_is)
      (case b_bool => k_is)
      (case b_str => k_is)
      (case b_list => k_is)
      (case b_tuple => k_is)
      (case b_sum => k_is)
      (case b_isinstance => k_is)
      (case b_all => k_is)
      (case b_set => k_is)
      (case b_dict => k_is)
      (case b_zip => k_is)
      (case b_sorted => k_is)
      (case b_enumerate => k_is)
      (case b_reversed => k_is)
      (case b_min => k_is)
      (case g_SMALL => k_is); (case r_SMALL => exact ⟨_, rfl⟩)
      (case g_MOST_SIGNS => k_is); (case r_MOST_SIGNS => exact ⟨_, rfl⟩)
      (case g_MOST_NUMBER => k_is); (case r_MOST_NUMBER => exact ⟨_, rfl⟩)
      (case g_MOST_INPUTS => k_is); (case r_MOST_INPUTS => exact ⟨_, rfl⟩)
      (case g_MOST_PARAMS => k_is); (case r_MOST_PARAMS => exact ⟨_, rfl⟩)
      (case g_MOST_PARTS => k_is); (case r_MOST_PARTS => exact ⟨_, rfl⟩)
      (case g_NEAR => k_is); (case r_NEAR => exact ⟨_, rfl⟩)
      (case g_CALLED => k_is); (case r_CALLED => exact ⟨_, rfl⟩)
      (case g_WHEEL => k_is); (case r_WHEEL => exact ⟨_, rfl⟩)
    obtain ⟨fdl, Fl, bl⟩ : ∃ fd : FuncData, BN.LawX KX BN.s_law fa fd ∧ ∀ (s : Shared) (v : Value), BindsTo s fd ⟨[v], []⟩ [("_law_script", v)] := by
      refine' BN.law_of KX G hmg ?a ?l ?c ?k ?b
      (case a => k_is); (case l => k_is); (case c => k_is); (case k => k_is); (case b => exact fun s v => .of_eq rfl)
    exact ⟨fdl, bl, fun base _ _ => BN.chain Fl T D_law_begun D_law_take D_law_leaf D_law_fun D_law_part D_law_inner D_law_size D_law_program D_law_numbers D_law_alike D_is_word D_are_words D_inner_of D_Check_must D_Check_look D_check_program D_check_run D_Rooms_read D_Rooms_work D_Rooms_call D_gone D_run D_law_room D_law_read D_law_work D_law_call D_law_run D_size_of D_Hander_wants D_Hander_known D_Hander_made D_handed D_law_closed D_law_funs D_law_calls D_law_goes_on D_Check D_Rooms⟩
