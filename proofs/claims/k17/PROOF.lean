import PyProof.Rows.All
import Wide.All
import OpenK.AllK
import Wide.FinOn
import HandS.ForMost
import HandS.Walk
import HandS.Zip
import HandS.Deep
import HandS.SetKeys
import HandS.Style
import HandS.Evl
import KE.KDictKeyed
import KE.SortData
import KE.GoesNewDict
import KE.OsSortAny
import HandS.DictTup
import HandS.Ends
import HandS.Words
import PyProof.ReprRoads
import PyProof.ReprBulk
import HandS.Steps
import HandS.More
import HandS.Comp
import PySem.Challenge.RW_railshut_k17_motions_exact
import HandS.Text
import PyProof.Rows.StrStep
set_option Elab.async false
set_option linter.all false
set_option maxRecDepth 100000
set_option maxHeartbeats 2000000
/-! Values that read as nested keys (ints, texts, None, tuples), over the abstract heap. -/
namespace Mk
open PySem L2 Evl

/-- all tuples stay -/
def TSt (H H' : Hp) : Prop := ∀ a xs, H a = some (.tup xs) → H' a = some (.tup xs)
theorem TSt.refl (H : Hp) : TSt H H := fun _ _ h => h
theorem TSt.trans {H H1 H2 : Hp} (a : TSt H H1) (b : TSt H1 H2) : TSt H H2 := fun c xs h => b c xs (a c xs h)
theorem TSt.ex {H H' : Hp} (e : Ex H H') : TSt H H' := fun a xs h => e a _ h
theorem TSt.upd {H H' : Hp} {p : Addr} {o : HO} (e : TSt H H') (h : ∀ xs, H' p ≠ some (.tup xs)) : TSt H (upd H' p o) := fun a xs q => by
  have q2 := e a xs q
  have ne : a ≠ p := fun z => h xs (z ▸ q2)
  rw [upd_ne ne]
  exact q2
theorem TSt.lst {H H' : Hp} {p : Addr} {o : HO} {xs : List V} (e : TSt H H') (h : H' p = some (.lst xs)) : TSt H (L2.upd H' p o) :=
  TSt.upd e fun ys q => by rw [h] at q; cases q

/-- a tuple of the module's own -/
def WT (K : PySem.W.Frag) (a : Addr) (xs : List V) : Prop :=
  ∃ (o : Obj) (its : Array Value) (n : Nat), K.lookup a = some o ∧ o.cls = .type "tuple" ∧ o.data = .seq its n ∧ its.size ≤ sizeLine ∧ Vals xs its.toList
def TT (K : PySem.W.Frag) (H : Hp) (a : Addr) (xs : List V) : Prop := H a = some (.tup xs) ∨ WT K a xs
theorem TT.sq {K : PySem.W.Frag} {H : Hp} {a : Addr} {xs : List V} (h : TT K H a xs) : SqT K H a xs := by
  rcases h with h | h
  · exact .inl (.inl h)
  · exact .inr h
theorem TT.ts {K : PySem.W.Frag} {H H' : Hp} {a : Addr} {xs : List V} (e : TSt H H') (h : TT K H a xs) : TT K H' a xs := by
  rcases h with h | h
  · exact .inl (e _ _ h)
  · exact .inr h

mutual
/-- the value reads as the key -/
def Tk (K : PySem.W.Frag) (H : Hp) : NestedKey → V → Prop
  | .none, v => v = .non
  | .num i, v => v = .int i
  | .text x, v => v = .str x
  | .tup ks, v => ∃ a xs, v = .ref a ∧ TT K H a xs ∧ Tks K H ks xs
def Tks (K : PySem.W.Frag) (H : Hp) : List NestedKey → List V → Prop
  | [], xs => xs = []
  | k :: ks, xs => ∃ x r, xs = x :: r ∧ Tk K H k x ∧ Tks K H ks r
end
section
variable {K : PySem.W.Frag} {H H' : Hp}
theorem tk_num {i : Int} {v : V} : Tk K H (.num i) v ↔ v = .int i := by simp only [Tk]
theorem tk_text {x : Str} {v : V} : Tk K H (.text x) v ↔ v = .str x := by simp only [Tk]
theorem tk_none {v : V} : Tk K H .none v ↔ v = .non := by simp only [Tk]
theorem tk_tup {ks : List NestedKey} {v : V} : Tk K H (.tup ks) v ↔ ∃ a xs, v = .ref a ∧ TT K H a xs ∧ Tks K H ks xs := by simp only [Tk]
theorem tks_nil {xs : List V} : Tks K H [] xs ↔ xs = [] := by simp only [Tks]
theorem tks_cons {k : NestedKey} {ks : List NestedKey} {xs : List V} : Tks K H (k :: ks) xs ↔ ∃ x r, xs = x :: r ∧ Tk K H k x ∧ Tks K H ks r := by simp only [Tks]
mutual
theorem Tk.ts (e : TSt H H') : ∀ (k : NestedKey) (v : V), Tk K H k v → Tk K H' k v
  | .none, _, h => tk_none.mpr (tk_none.mp h)
  | .num _, _, h => tk_num.mpr (tk_num.mp h)
  | .text _, _, h => tk_text.mpr (tk_text.mp h)
  | .tup ks, _, h => by
    obtain ⟨a, xs, rfl, h1, h2⟩ := tk_tup.mp h
    exact tk_tup.mpr ⟨a, xs, rfl, h1.ts e, Tks.ts e ks xs h2⟩
theorem Tks.ts (e : TSt H H') : ∀ (ks : List NestedKey) (xs : List V), Tks K H ks xs → Tks K H' ks xs
  | [], _, h => tks_nil.mpr (tks_nil.mp h)
  | k :: ks, _, h => by
    obtain ⟨x, r, rfl, h1, h2⟩ := tks_cons.mp h
    exact tks_cons.mpr ⟨x, r, rfl, Tk.ts e k x h1, Tks.ts e ks r h2⟩
end
theorem Tk.ex {k : NestedKey} {v : V} (h : Tk K H k v) (e : Ex H H') : Tk K H' k v := Tk.ts (TSt.ex e) k v h
theorem Tks.ex {ks : List NestedKey} {vs : List V} (h : Tks K H ks vs) (e : Ex H H') : Tks K H' ks vs := Tks.ts (TSt.ex e) ks vs h
theorem Tk.to {k : NestedKey} {v : V} (h : Tk K H k v) (e : TSt H H') : Tk K H' k v := Tk.ts e k v h
theorem Tks.to {ks : List NestedKey} {vs : List V} (h : Tks K H ks vs) (e : TSt H H') : Tks K H' ks vs := Tks.ts e ks vs h
theorem Tks.len : ∀ {ks : List NestedKey} {xs : List V}, Tks K H ks xs → xs.length = ks.length
  | [], _, h => by rw [tks_nil.mp h]; rfl
  | k :: ks, _, h => by
    obtain ⟨x, r, rfl, _, h2⟩ := tks_cons.mp h
    rw [List.length_cons, List.length_cons, Tks.len h2]
theorem Tks.at_ : ∀ {ks : List NestedKey} {xs : List V} {i : Nat} {k : NestedKey}, Tks K H ks xs → ks[i]? = some k → ∃ x, xs[i]? = some x ∧ Tk K H k x
  | [], _, i, k, _, e => by simp at e
  | k :: ks, _, 0, k', h, e => by
    obtain ⟨x, r, rfl, h1, h2⟩ := tks_cons.mp h
    cases e
    exact ⟨x, rfl, h1⟩
  | k :: ks, _, i + 1, k', h, e => by
    obtain ⟨x, r, rfl, h1, h2⟩ := tks_cons.mp h
    obtain ⟨y, h3, h4⟩ := Tks.at_ (i := i) (k := k') h2 (by simpa using e)
    exact ⟨y, by simpa using h3, h4⟩
theorem Tks.of_at : ∀ {ks : List NestedKey} {xs : List V} {i : Nat} {x : V}, Tks K H ks xs → xs[i]? = some x → ∃ k, ks[i]? = some k ∧ Tk K H k x
  | [], _, i, x, h, e => by rw [tks_nil.mp h] at e; simp at e
  | k :: ks, _, 0, x, h, e => by
    obtain ⟨y, r, rfl, h1, h2⟩ := tks_cons.mp h
    cases e
    exact ⟨k, rfl, h1⟩
  | k :: ks, _, i + 1, x, h, e => by
    obtain ⟨y, r, rfl, h1, h2⟩ := tks_cons.mp h
    obtain ⟨k', h3, h4⟩ := Tks.of_at (i := i) (x := x) h2 (by simpa using e)
    exact ⟨k', by simpa using h3, h4⟩
theorem Tks.app : ∀ {ks js : List NestedKey} {xs ys : List V}, Tks K H ks xs → Tks K H js ys → Tks K H (ks ++ js) (xs ++ ys)
  | [], _, _, _, h, g => by rw [tks_nil.mp h]; exact g
  | k :: ks, js, _, ys, h, g => by
    obtain ⟨x, r, rfl, h1, h2⟩ := tks_cons.mp h
    exact tks_cons.mpr ⟨x, r ++ ys, rfl, h1, Tks.app h2 g⟩
theorem Tks.one {k : NestedKey} {x : V} (h : Tk K H k x) : Tks K H [k] [x] := tks_cons.mpr ⟨x, [], rfl, h, tks_nil.mpr rfl⟩
theorem Tks.snoc {ks : List NestedKey} {xs : List V} {k : NestedKey} {x : V} (h : Tks K H ks xs) (g : Tk K H k x) : Tks K H (ks ++ [k]) (xs ++ [x]) := h.app (Tks.one g)
theorem Tks.take : ∀ (n : Nat) {ks : List NestedKey} {xs : List V}, Tks K H ks xs → Tks K H (ks.take n) (xs.take n)
  | 0, ks, xs, _ => tks_nil.mpr rfl
  | n + 1, [], _, h => by rw [tks_nil.mp h]; exact tks_nil.mpr rfl
  | n + 1, k :: ks, _, h => by
    obtain ⟨x, r, rfl, h1, h2⟩ := tks_cons.mp h
    exact tks_cons.mpr ⟨x, r.take n, rfl, h1, Tks.take n h2⟩
theorem Tks.drop : ∀ (n : Nat) {ks : List NestedKey} {xs : List V}, Tks K H ks xs → Tks K H (ks.drop n) (xs.drop n)
  | 0, _, _, h => h
  | n + 1, [], _, h => by rw [tks_nil.mp h]; exact tks_nil.mpr rfl
  | n + 1, k :: ks, _, h => by
    obtain ⟨x, r, rfl, h1, h2⟩ := tks_cons.mp h
    exact Tks.drop n h2
/-- in the shape of relations on lists -/
theorem Tks.of_all : ∀ {ks : List NestedKey} {xs : List V}, xs.length = ks.length → (∀ (i : Nat) (k : NestedKey) (x : V), ks[i]? = some k → xs[i]? = some x → Tk K H k x) → Tks K H ks xs
  | [], xs, hl, _ => tks_nil.mpr (List.length_eq_zero_iff.mp hl)
  | k :: ks, [], hl, _ => by simp at hl
  | k :: ks, x :: xs, hl, h => tks_cons.mpr ⟨x, xs, rfl, h 0 k x rfl rfl, Tks.of_all (by simpa using hl) fun i k' x' e1 e2 => h (i + 1) k' x' (by simpa using e1) (by simpa using e2)⟩
theorem Tks.ints : ∀ ns : List Int, Tks K H (ns.map NestedKey.num) (ns.map V.int)
  | [] => tks_nil.mpr rfl
  | n :: ns => tks_cons.mpr ⟨_, _, rfl, tk_num.mpr rfl, Tks.ints ns⟩
theorem Tks.ints_of : ∀ {ns : List Int} {xs : List V}, Tks K H (ns.map NestedKey.num) xs → xs = ns.map V.int
  | [], _, h => tks_nil.mp h
  | n :: ns, _, h => by
    obtain ⟨x, r, rfl, h1, h2⟩ := tks_cons.mp h
    rw [tk_num.mp h1, Tks.ints_of h2]
    rfl

mutual
theorem Tk.dp : ∀ (k : NestedKey) (v : V), Tk K H k v → Dp K H v k.data
  | .none, _, h => by rw [tk_none.mp h]; exact .non
  | .num i, _, h => by rw [tk_num.mp h]; exact .int i
  | .text x, _, h => by rw [tk_text.mp h]; exact .str x
  | .tup ks, _, h => by
    obtain ⟨a, xs, rfl, h1, h2⟩ := tk_tup.mp h
    exact .tup h1.sq (Tks.dp ks xs h2)
theorem Tks.dp : ∀ (ks : List NestedKey) (xs : List V), Tks K H ks xs → DpAll K H xs (NestedKey.datas ks)
  | [], _, h => by rw [tks_nil.mp h]; exact .nil
  | k :: ks, _, h => by
    obtain ⟨x, r, rfl, h1, h2⟩ := tks_cons.mp h
    exact .cons (Tk.dp k x h1) (Tks.dp ks r h2)
end
theorem datas_map : ∀ ks : List NestedKey, NestedKey.datas ks = ks.map NestedKey.data
  | [] => rfl
  | k :: ks => by
    rw [NestedKey.datas, datas_map ks]
    rfl
end
section
variable {X : Cx} {pins : List (Addr × Obj)} {σ : L2.St} {H : Hp} {s : Shared}
mutual
theorem Tk.is (I : Inv X pins σ H s) : ∀ (k : NestedKey) (v : V) (u : Value), Tk X.K H k v → RelV v u → NestedIs s.heap k u
  | .none, _, _, h, r => by
    rw [tk_none.mp h] at r
    cases r
    exact .none
  | .num i, _, _, h, r => by
    rw [tk_num.mp h] at r
    obtain ⟨t, rfl⟩ := r
    exact .int i t
  | .text x, _, _, h, r => by
    rw [tk_text.mp h] at r
    obtain ⟨t, rfl⟩ := r
    exact .text x t
  | .tup ks, _, _, h, r => by
    obtain ⟨a, xs, rfl, h1, h2⟩ := tk_tup.mp h
    cases r
    obtain ⟨its, rv, ⟨o, ho, hc, n, hd⟩, _⟩ := I.tuple h1.sq
    exact .tup ho hc hd (Tks.is I ks xs its h2 rv)
theorem Tks.is (I : Inv X pins σ H s) : ∀ (ks : List NestedKey) (xs : List V) (us : List Value), Tks X.K H ks xs → Vals xs us → NestedAll s.heap ks us
  | [], _, _, h, r => by
    rw [tks_nil.mp h] at r
    cases r
    exact .nil
  | k :: ks, _, _, h, r => by
    obtain ⟨x, q, rfl, h1, h2⟩ := tks_cons.mp h
    cases r with
    | cons r1 r2 => exact .cons (Tk.is I k x _ h1 r1) (Tks.is I ks q _ h2 r2)
end
theorem Tk.reads (I : Inv X pins σ H s) {k : NestedKey} {v : V} {u : Value} (h : Tk X.K H k v) (r : RelV v u) : ∃ as, Reads s.heap u k.data as :=
  Dp.reads I k.data v u (Tk.dp k v h) r
end
end Mk
set_option Elab.async false
set_option linter.all false
set_option maxRecDepth 100000
set_option maxHeartbeats 2000000
/-! Positions, poses, pieces, sorting of keys: plain. -/
namespace Mk
open PySem PySem.W PyProof.Rows

/-! ### sorting of keys -/
def kLe : NestedKey → NestedKey → Bool := dataLe false NestedKey.data
def ksort (l : List NestedKey) : List NestedKey := l.mergeSort kLe
def tokLe (a b : List (Int ⊕ List Nat)) : Bool := !PyProof.Rows.lexLt itemOrd b a
def toksK (k : NestedKey) : List (Int ⊕ List Nat) := keyToks k.data
theorem kLe_tok (a b : NestedKey) : kLe a b = tokLe (toksK a) (toksK b) := rfl
theorem tokLe_total (a b : List (Int ⊕ List Nat)) : (tokLe a b || tokLe b a) = true := by
  unfold tokLe
  cases h : PyProof.Rows.lexLt itemOrd b a with
  | false => rfl
  | true =>
    cases h2 : PyProof.Rows.lexLt itemOrd a b with
    | false => rfl
    | true =>
      have h3 := lex_trans (O := itemOrd) a b a h2 h
      rw [lex_irrefl] at h3
      cases h3
theorem tokLe_trans (a b c : List (Int ⊕ List Nat)) (h1 : tokLe a b = true) (h2 : tokLe b c = true) : tokLe a c = true := by
  unfold tokLe at *
  cases h : PyProof.Rows.lexLt itemOrd c a with
  | false => rfl
  | true =>
    rcases lex_negTrans (O := itemOrd) c b a h with q | q
    · rw [q] at h2; cases h2
    · rw [q] at h1; cases h1
theorem tokLe_anti (a b : List (Int ⊕ List Nat)) (h1 : tokLe a b = true) (h2 : tokLe b a = true) : a = b := by
  unfold tokLe at *
  cases h : PyProof.Rows.lexLt itemOrd b a with
  | true => rw [h] at h1; cases h1
  | false =>
    cases q : PyProof.Rows.lexLt itemOrd a b with
    | true => rw [q] at h2; cases h2
    | false => exact lex_total (O := itemOrd) a b q h
theorem kLe_total (a b : NestedKey) : (kLe a b || kLe b a) = true := tokLe_total _ _
theorem kLe_trans (a b c : NestedKey) (h1 : kLe a b = true) (h2 : kLe b c = true) : kLe a c = true := tokLe_trans _ _ _ h1 h2
theorem ksort_perm (l : List NestedKey) : (ksort l).Perm l := List.mergeSort_perm l kLe
theorem ksort_pw (l : List NestedKey) : (ksort l).Pairwise (fun a b => kLe a b = true) := List.pairwise_mergeSort kLe_trans kLe_total l
theorem ksort_len (l : List NestedKey) : (ksort l).length = l.length := (ksort_perm l).length_eq
theorem mem_ksort {l : List NestedKey} {k : NestedKey} : k ∈ ksort l ↔ k ∈ l := (ksort_perm l).mem_iff

/-! sorted lists of tokens are unique -/
theorem sorted_one : ∀ (a b : List (List (Int ⊕ List Nat))), a.Pairwise (fun x y => tokLe x y = true) → b.Pairwise (fun x y => tokLe x y = true) → a.Perm b → a = b
  | [], b, _, _, h => (List.Perm.nil_eq h)
  | x :: a, [], _, _, h => by have := h.length_eq; simp at this
  | x :: a, y :: b, ha, hb, h => by
    have h1 := List.pairwise_cons.mp ha
    have h2 := List.pairwise_cons.mp hb
    have e : x = y := by
      have hx : x ∈ y :: b := h.mem_iff.mp List.mem_cons_self
      have hy : y ∈ x :: a := h.mem_iff.mpr List.mem_cons_self
      rcases List.mem_cons.mp hx with q | q
      · exact q
      · rcases List.mem_cons.mp hy with q' | q'
        · exact q'.symm
        · exact tokLe_anti x y (h1.1 y q') (h2.1 x q)
    subst e
    rw [sorted_one a b h1.2 h2.2 (List.Perm.cons_inv h)]

/-! the row of signs tells the key, among keys that are alike -/
mutual
theorem toks_inj : ∀ (x y : NestedKey), alike x.data y.data = true → ∀ l m, toksK x ++ l = toksK y ++ m → x = y ∧ l = m
  | .none, .none, _, l, m, e => ⟨rfl, by simpa [toksK, NestedKey.data, keyToks] using e⟩
  | .num i, .num j, _, l, m, e => by
    simp only [toksK, NestedKey.data, keyToks, List.cons_append, List.nil_append, List.cons.injEq, Sum.inl.injEq] at e
    exact ⟨by rw [e.1], e.2⟩
  | .text i, .text j, _, l, m, e => by
    simp only [toksK, NestedKey.data, keyToks, List.cons_append, List.nil_append, List.cons.injEq, Sum.inr.injEq] at e
    exact ⟨by rw [str_of_cps e.1], e.2⟩
  | .tup xs, .tup ys, h, l, m, e => by
    have h' : alikeAll (NestedKey.datas xs) (NestedKey.datas ys) = true := by simpa [NestedKey.data, alike] using h
    simp only [toksK, NestedKey.data, keyToks] at e
    have q := toksAll_inj xs ys h' l m e
    exact ⟨by rw [q.1], q.2⟩
  | .none, .num _, h, _, _, _ => by simp [NestedKey.data, alike] at h
  | .none, .text _, h, _, _, _ => by simp [NestedKey.data, alike] at h
  | .none, .tup _, h, _, _, _ => by simp [NestedKey.data, alike] at h
  | .num _, .none, h, _, _, _ => by simp [NestedKey.data, alike] at h
  | .num _, .text _, h, _, _, _ => by simp [NestedKey.data, alike] at h
  | .num _, .tup _, h, _, _, _ => by simp [NestedKey.data, alike] at h
  | .text _, .none, h, _, _, _ => by simp [NestedKey.data, alike] at h
  | .text _, .num _, h, _, _, _ => by simp [NestedKey.data, alike] at h
  | .text _, .tup _, h, _, _, _ => by simp [NestedKey.data, alike] at h
  | .tup _, .none, h, _, _, _ => by simp [NestedKey.data, alike] at h
  | .tup _, .num _, h, _, _, _ => by simp [NestedKey.data, alike] at h
  | .tup _, .text _, h, _, _, _ => by simp [NestedKey.data, alike] at h
theorem toksAll_inj : ∀ (xs ys : List NestedKey), alikeAll (NestedKey.datas xs) (NestedKey.datas ys) = true → ∀ l m, keyToksAll (NestedKey.datas xs) ++ l = keyToksAll (NestedKey.datas ys) ++ m → xs = ys ∧ l = m
  | [], [], _, l, m, e => ⟨rfl, by simpa [NestedKey.datas, keyToksAll] using e⟩
  | [], y :: ys, _, l, m, e => by simp [NestedKey.datas, keyToksAll] at e
  | x :: xs, [], _, l, m, e => by simp [NestedKey.datas, keyToksAll] at e
  | x :: xs, y :: ys, h, l, m, e => by
    have h' : alike x.data y.data = true ∧ alikeAll (NestedKey.datas xs) (NestedKey.datas ys) = true := alike_all_cons (by simpa [NestedKey.datas] using h)
    simp only [NestedKey.datas, keyToksAll, List.cons_append, List.append_assoc, List.cons.injEq, true_and] at e
    obtain ⟨e1, e2⟩ := toks_inj x y h'.1 _ _ e
    obtain ⟨e3, e4⟩ := toksAll_inj xs ys h'.2 _ _ e2
    exact ⟨by rw [e1, e3], e4⟩
end
def Alike (l : List NestedKey) : Prop := ∀ x ∈ l, ∀ y ∈ l, alike x.data y.data = true
theorem toksK_inj {x y : NestedKey} (h : alike x.data y.data = true) (e : toksK x = toksK y) : x = y :=
  (toks_inj x y h [] [] (by rw [List.append_nil, List.append_nil]; exact e)).1
theorem map_inj_on {α β : Type} (f : α → β) : ∀ (a b : List α), (∀ x ∈ a, ∀ y ∈ b, f x = f y → x = y) → a.map f = b.map f → a = b
  | [], [], _, _ => rfl
  | [], _ :: _, _, e => by simp at e
  | _ :: _, [], _, e => by simp at e
  | x :: a, y :: b, h, e => by
    simp only [List.map_cons, List.cons.injEq] at e
    rw [h x List.mem_cons_self y List.mem_cons_self e.1, map_inj_on f a b (fun x hx y hy => h x (List.mem_cons_of_mem _ hx) y (List.mem_cons_of_mem _ hy)) e.2]
theorem ksort_of {l m : List NestedKey} (hal : Alike l) (hp : m.Perm l) (hs : m.Pairwise (fun a b => kLe a b = true)) : m = ksort l := by
  refine map_inj_on toksK m (ksort l) (fun x hx y hy e => toksK_inj (hal x (hp.mem_iff.mp hx) y (mem_ksort.mp hy)) e) ?_
  refine sorted_one _ _ ?_ ?_ (((hp.trans (ksort_perm l).symm)).map toksK)
  · exact List.pairwise_map.mpr hs
  · exact List.pairwise_map.mpr (ksort_pw l)
theorem ksort_eq {l m : List NestedKey} (hal : Alike l) (hp : l.Perm m) : ksort l = ksort m := by
  have hal' : Alike m := fun x hx y hy => hal x (hp.mem_iff.mpr hx) y (hp.mem_iff.mpr hy)
  exact ksort_of hal' ((ksort_perm l).trans hp) (ksort_pw l)
theorem perm_of_ksort {l m : List NestedKey} (e : ksort l = ksort m) : l.Perm m := (ksort_perm l).symm.trans (by rw [e]; exact ksort_perm m)

/-- sorted by a key -/
def sortBy {α : Type} (f : α → NestedKey) (l : List α) : List α := l.mergeSort (fun x y => kLe (f x) (f y))
theorem ksort_map {α : Type} (f : α → NestedKey) (l : List α) : ksort (l.map f) = (sortBy f l).map f := (sort_maps f (fun _ _ _ _ => rfl)).symm
theorem sortBy_perm {α : Type} (f : α → NestedKey) (l : List α) : (sortBy f l).Perm l := List.mergeSort_perm l _
theorem mem_sortBy {α : Type} {f : α → NestedKey} {l : List α} {x : α} : x ∈ sortBy f l ↔ x ∈ l := (sortBy_perm f l).mem_iff

/-! ### the first of pairs -/
def pairK (s : NestedKey) (n : Nat) : NestedKey := .tup [s, .num n]
def fstK : NestedKey → NestedKey
  | .tup (s :: _) => s
  | _ => .none
theorem kLe_pair {s t : NestedKey} {m n : Nat} (ha : alike t.data s.data = true) (h : kLe (pairK s m) (pairK t n) = true) : kLe s t = true := by
  show (!dataLt t.data s.data) = true
  have h1 : (!dataLt (.tuple [t.data, .int n]) (.tuple [s.data, .int m])) = true := h
  rw [dataLt_pair ha (by simp [alike])] at h1
  by_cases e : PyData.eqv t.data s.data = true
  · have e2 := (toks_eqv t.data s.data ha).1 e
    unfold dataLt
    rw [e2, lex_irrefl]
    rfl
  · rw [if_neg e] at h1
    exact h1
theorem fst_sorted {l : List (NestedKey × Nat)} (hal : Alike (l.map (·.1))) : (ksort (l.map fun p => pairK p.1 p.2)).map fstK = ksort (l.map (·.1)) := by
  rw [ksort_map]
  rw [List.map_map]
  have e : (fstK ∘ fun p : NestedKey × Nat => pairK p.1 p.2) = fun p => p.1 := rfl
  rw [e]
  refine ksort_of hal ((sortBy_perm _ l).map _) ?_
  refine List.pairwise_map.mpr ?_
  have h : (sortBy (fun p : NestedKey × Nat => pairK p.1 p.2) l).Pairwise (fun a b => kLe (pairK a.1 a.2) (pairK b.1 b.2) = true) :=
    List.pairwise_mergeSort (le := fun a b : NestedKey × Nat => kLe (pairK a.1 a.2) (pairK b.1 b.2)) (fun _ _ _ => kLe_trans _ _ _) (fun _ _ => kLe_total _ _) l
  have mem : ∀ a ∈ sortBy (fun p : NestedKey × Nat => pairK p.1 p.2) l, a.1 ∈ l.map (·.1) := fun a ha => List.mem_map.mpr ⟨a, mem_sortBy.mp ha, rfl⟩
  exact h.imp_of_mem fun {a b} ha hb q => kLe_pair (hal _ (mem b hb) _ (mem a ha)) q

/-! ### positions and poses -/
structure P4 where
  a : Int
  b : Int
  c : Int
  d : Int
  deriving DecidableEq
structure P5 where
  p : P4
  h : Int
  deriving DecidableEq
def P4.add (x y : P4) : P4 := ⟨x.a + y.a, x.b + y.b, x.c + y.c, x.d + y.d⟩
def P4.neg (x : P4) : P4 := ⟨0 - x.a, 0 - x.b, 0 - x.c, 0 - x.d⟩
def P4.nul : P4 := ⟨0, 0, 0, 0⟩
def home : P5 := ⟨P4.nul, 0⟩
def rot1 (x : P4) : P4 := ⟨-x.d, x.a, x.b, x.c⟩
def rotN : Nat → P4 → P4
  | 0, x => x
  | n + 1, x => rot1 (rotN n x)
def rot (e : Int) (x : P4) : P4 := rotN (e % 8).toNat x
def unit (k m : Int) : P4 := rot k ⟨m, 0, 0, 0⟩
theorem P4.eq {x y : P4} (h1 : x.a = y.a) (h2 : x.b = y.b) (h3 : x.c = y.c) (h4 : x.d = y.d) : x = y := by
  cases x
  cases y
  simp_all
theorem P5.eq {x y : P5} (h1 : x.p = y.p) (h2 : x.h = y.h) : x = y := by
  cases x
  cases y
  simp_all
theorem rotN_8 (x : P4) : rotN 8 x = x := by
  cases x
  simp [rotN, rot1]
theorem rotN_add (m n : Nat) (x : P4) : rotN (m + n) x = rotN m (rotN n x) := by
  induction m with
  | zero => rw [Nat.zero_add]; rfl
  | succ m ih =>
    rw [Nat.succ_add]
    show rot1 (rotN (m + n) x) = rot1 (rotN m (rotN n x))
    rw [ih]
theorem rotN_mul (k : Nat) (x : P4) : rotN (8 * k) x = x := by
  induction k with
  | zero => rfl
  | succ k ih =>
    rw [Nat.mul_succ, Nat.add_comm, rotN_add, ih, rotN_8]
theorem rotN_mod (n : Nat) (x : P4) : rotN (n % 8) x = rotN n x := by
  conv => rhs; rw [← Nat.mod_add_div n 8, rotN_add, rotN_mul]
theorem rot_add (e f : Int) (x : P4) : rot (e + f) x = rot e (rot f x) := by
  unfold rot
  rw [← rotN_add, ← rotN_mod ((e % 8).toNat + (f % 8).toNat)]
  congr 1
  omega
theorem rot_mod (e : Int) (x : P4) : rot (e % 8) x = rot e x := by
  unfold rot
  congr 1
  omega
theorem rot_zero (x : P4) : rot 0 x = x := rfl
theorem rotN_lin (n : Nat) (x y : P4) : rotN n (x.add y) = (rotN n x).add (rotN n y) := by
  induction n with
  | zero => rfl
  | succ n ih =>
    show rot1 (rotN n (x.add y)) = (rot1 (rotN n x)).add (rot1 (rotN n y))
    rw [ih]
    refine P4.eq ?_ rfl rfl rfl
    simp only [rot1, P4.add]
    omega
theorem rot_lin (e : Int) (x y : P4) : rot e (x.add y) = (rot e x).add (rot e y) := rotN_lin _ x y
theorem rotN_nul (n : Nat) : rotN n P4.nul = P4.nul := by
  induction n with
  | zero => rfl
  | succ n ih =>
    show rot1 (rotN n P4.nul) = P4.nul
    rw [ih]
    rfl
theorem rot_nul (e : Int) : rot e P4.nul = P4.nul := rotN_nul _
theorem rot_inj {e : Int} {x y : P4} (h : rot e x = rot e y) : x = y := by
  have q : rot (-e) (rot e x) = rot (-e) (rot e y) := by rw [h]
  rw [← rot_add, ← rot_add] at q
  have z : -e + e = 0 := by omega
  rw [z, rot_zero, rot_zero] at q
  exact q
theorem add_assoc (x y z : P4) : (x.add y).add z = x.add (y.add z) := P4.eq (Int.add_assoc _ _ _) (Int.add_assoc _ _ _) (Int.add_assoc _ _ _) (Int.add_assoc _ _ _)
theorem add_comm (x y : P4) : x.add y = y.add x := P4.eq (Int.add_comm _ _) (Int.add_comm _ _) (Int.add_comm _ _) (Int.add_comm _ _)
theorem add_nul (x : P4) : x.add P4.nul = x := P4.eq (Int.add_zero _) (Int.add_zero _) (Int.add_zero _) (Int.add_zero _)
theorem nul_add (x : P4) : P4.nul.add x = x := P4.eq (Int.zero_add _) (Int.zero_add _) (Int.zero_add _) (Int.zero_add _)
theorem add_left_inj {x y z : P4} (h : x.add y = x.add z) : y = z := by
  have h1 := congrArg P4.a h
  have h2 := congrArg P4.b h
  have h3 := congrArg P4.c h
  have h4 := congrArg P4.d h
  simp only [P4.add] at h1 h2 h3 h4
  exact P4.eq (by omega) (by omega) (by omega) (by omega)
/-- the eight turns, spelt -/
theorem rot_cases (e : Int) (x : P4) : (e % 8 = 0 ∧ rot e x = x) ∨ (e % 8 = 1 ∧ rot e x = ⟨-x.d, x.a, x.b, x.c⟩) ∨ (e % 8 = 2 ∧ rot e x = ⟨-x.c, -x.d, x.a, x.b⟩) ∨ (e % 8 = 3 ∧ rot e x = ⟨-x.b, -x.c, -x.d, x.a⟩) ∨
    (e % 8 = 4 ∧ rot e x = ⟨-x.a, -x.b, -x.c, -x.d⟩) ∨ (e % 8 = 5 ∧ rot e x = ⟨x.d, -x.a, -x.b, -x.c⟩) ∨ (e % 8 = 6 ∧ rot e x = ⟨x.c, x.d, -x.a, -x.b⟩) ∨ (e % 8 = 7 ∧ rot e x = ⟨x.b, x.c, x.d, -x.a⟩) := by
  have h0 : 0 ≤ e % 8 := Int.emod_nonneg _ (by decide)
  have h8 : e % 8 < 8 := Int.emod_lt_of_pos _ (by decide)
  unfold rot
  have hh : e % 8 = 0 ∨ e % 8 = 1 ∨ e % 8 = 2 ∨ e % 8 = 3 ∨ e % 8 = 4 ∨ e % 8 = 5 ∨ e % 8 = 6 ∨ e % 8 = 7 := by omega
  rcases hh with h | h | h | h | h | h | h | h
  · rw [h]; exact .inl ⟨rfl, rfl⟩
  · rw [h]; exact .inr (.inl ⟨rfl, rfl⟩)
  · rw [h]; exact .inr (.inr (.inl ⟨rfl, rfl⟩))
  · rw [h]; exact .inr (.inr (.inr (.inl ⟨rfl, rfl⟩)))
  · rw [h]; exact .inr (.inr (.inr (.inr (.inl ⟨rfl, rfl⟩))))
  · rw [h]; refine .inr (.inr (.inr (.inr (.inr (.inl ⟨rfl, P4.eq ?_ rfl rfl rfl⟩))))); exact Int.neg_neg _
  · rw [h]; refine .inr (.inr (.inr (.inr (.inr (.inr (.inl ⟨rfl, P4.eq ?_ ?_ rfl rfl⟩)))))); exact Int.neg_neg _; exact Int.neg_neg _
  · rw [h]; refine .inr (.inr (.inr (.inr (.inr (.inr (.inr ⟨rfl, P4.eq ?_ ?_ ?_ rfl⟩)))))); exact Int.neg_neg _; exact Int.neg_neg _; exact Int.neg_neg _
theorem rot_sum (e : Int) (x : P4) : (((P4.nul.add (unit (0 + e) x.a)).add (unit (1 + e) x.b)).add (unit (2 + e) x.c)).add (unit (3 + e) x.d) = rot e x := by
  have u0 : ∀ k m : Int, unit (k + e) m = rot e (unit k m) := fun k m => by
    unfold unit
    rw [Int.add_comm k e, rot_add]
  rw [u0, u0, u0, u0, nul_add, ← rot_lin, ← rot_lin, ← rot_lin]
  congr 1
  refine P4.eq ?_ ?_ ?_ ?_ <;> simp [unit, rot, rotN, rot1, P4.add]
end Mk
set_option Elab.async false
set_option linter.all false
set_option maxRecDepth 100000
set_option maxHeartbeats 2000000
/-! Pieces, ends, shapes, motions: plain. -/
namespace Mk
open PySem PySem.W PyProof.Rows

/-! ### a pose laid at a pose -/
def laid (m e : P5) : P5 := ⟨m.p.add (rot m.h e.p), (m.h + e.h) % 8⟩
def InH (e : P5) : Prop := 0 ≤ e.h ∧ e.h < 8
theorem laid_inH (m e : P5) : InH (laid m e) := ⟨Int.emod_nonneg _ (by decide), Int.emod_lt_of_pos _ (by decide)⟩
theorem laid_assoc (m n e : P5) : laid (laid m n) e = laid m (laid n e) := by
  refine P5.eq ?_ ?_
  · show (m.p.add (rot m.h n.p)).add (rot ((m.h + n.h) % 8) e.p) = m.p.add (rot m.h (n.p.add (rot n.h e.p)))
    rw [rot_mod, rot_add, rot_lin, add_assoc]
  · show ((m.h + n.h) % 8 + e.h) % 8 = (m.h + (n.h + e.h) % 8) % 8
    omega
theorem laid_home {e : P5} (h : InH e) : laid home e = e := by
  refine P5.eq ?_ ?_
  · show P4.nul.add (rot 0 e.p) = e.p
    rw [rot_zero, nul_add]
  · show (0 + e.h) % 8 = e.h
    have := h.1
    have := h.2
    omega
theorem home_inH : InH home := ⟨by decide, by decide⟩
theorem laid_inj {m e f : P5} (he : InH e) (hf : InH f) (h : laid m e = laid m f) : e = f := by
  have h1 : m.p.add (rot m.h e.p) = m.p.add (rot m.h f.p) := congrArg P5.p h
  have h2 : (m.h + e.h) % 8 = (m.h + f.h) % 8 := congrArg P5.h h
  have := he.1
  have := he.2
  have := hf.1
  have := hf.2
  exact P5.eq (rot_inj (add_left_inj h1)) (by omega)
/-- the motion that takes a pose to another one -/
def between (e f : P5) : P5 := ⟨f.p.add (rot (f.h - e.h) e.p).neg, (f.h - e.h) % 8⟩
theorem between_inH (e f : P5) : InH (between e f) := ⟨Int.emod_nonneg _ (by decide), Int.emod_lt_of_pos _ (by decide)⟩
theorem add_neg_add (x y : P4) : (x.add y.neg).add y = x := by
  refine P4.eq ?_ ?_ ?_ ?_ <;> simp only [P4.add, P4.neg] <;> omega
theorem add_add_neg (x y : P4) : (x.add y).add y.neg = x := by
  refine P4.eq ?_ ?_ ?_ ?_ <;> simp only [P4.add, P4.neg] <;> omega
theorem laid_between {e f : P5} (hf : InH f) : laid (between e f) e = f := by
  refine P5.eq ?_ ?_
  · show (f.p.add (rot (f.h - e.h) e.p).neg).add (rot ((f.h - e.h) % 8) e.p) = f.p
    rw [rot_mod, add_neg_add]
  · show ((f.h - e.h) % 8 + e.h) % 8 = f.h
    have := hf.1
    have := hf.2
    omega
theorem between_laid {m e : P5} (hm : InH m) : between e (laid m e) = m := by
  have hh : ((m.h + e.h) % 8 - e.h) % 8 = m.h := by
    have := hm.1
    have := hm.2
    omega
  refine P5.eq ?_ hh
  show (m.p.add (rot m.h e.p)).add (rot ((m.h + e.h) % 8 - e.h) e.p).neg = m.p
  rw [← rot_mod ((m.h + e.h) % 8 - e.h), hh, add_add_neg]
theorem between_self {e : P5} : between e e = home := by
  refine P5.eq ?_ ?_
  · show e.p.add (rot (e.h - e.h) e.p).neg = P4.nul
    rw [Int.sub_self, rot_zero]
    refine P4.eq ?_ ?_ ?_ ?_ <;> simp only [P4.add, P4.neg, P4.nul] <;> omega
  · show (e.h - e.h) % 8 = 0
    rw [Int.sub_self]
    rfl

/-! ### pieces -/
inductive Kd where
  | S | H | C | P | Q | X
  deriving DecidableEq
def Kd.str : Kd → Str
  | .S => "S"
  | .H => "H"
  | .C => "C"
  | .P => "P"
  | .Q => "Q"
  | .X => "X"
theorem Kd.inj {a b : Kd} (h : a.str = b.str) : a = b := by
  cases a <;> cases b <;> first | rfl | (exfalso; revert h; decide +kernel)
def others : Kd → List P5
  | .S => [⟨⟨2, 0, 0, 0⟩, 0⟩]
  | .H => [⟨⟨1, 0, 0, 0⟩, 0⟩]
  | .C => [⟨⟨0, 0, 2, -2⟩, 1⟩]
  | .P => [⟨⟨2, 0, 0, 0⟩, 0⟩, ⟨⟨0, 0, 2, -2⟩, 1⟩]
  | .Q => [⟨⟨2, 0, 0, 0⟩, 0⟩, ⟨⟨0, 2, -2, 0⟩, 7⟩]
  | .X => [⟨⟨2, 0, 0, 0⟩, 0⟩, ⟨⟨1, 0, 1, 0⟩, 2⟩, ⟨⟨1, 0, -1, 0⟩, 6⟩]
def back0 : P5 := ⟨P4.nul, 4⟩
def endsOf (k : Kd) (p : P5) : List P5 := (back0 :: others k).map (laid p)
theorem endsOf_inH {k : Kd} {p e : P5} (h : e ∈ endsOf k p) : InH e := by
  obtain ⟨f, _, rfl⟩ := List.mem_map.mp h
  exact laid_inH _ _
theorem endsOf_ne (k : Kd) (p : P5) : ∃ e, e ∈ endsOf k p := ⟨laid p back0, List.mem_cons_self⟩
theorem endsOf_len (k : Kd) (p : P5) : (endsOf k p).length ≤ 4 := by
  cases k <;> simp [endsOf, others]

abbrev Piece := Kd × P5
abbrev Lay := List (Option Piece)
def pcs (L : Lay) : List Piece := L.filterMap id
/-- the pieces with their numbers, from n on -/
def numd : Nat → Lay → List (Piece × Nat)
  | _, [] => []
  | n, none :: L => numd (n + 1) L
  | n, some p :: L => (p, n) :: numd (n + 1) L
theorem numd_fst : ∀ (n : Nat) (L : Lay), (numd n L).map (·.1) = pcs L
  | _, [] => rfl
  | n, none :: L => numd_fst (n + 1) L
  | n, some p :: L => by
    show p :: (numd (n + 1) L).map (·.1) = p :: pcs L
    rw [numd_fst]
theorem numd_app : ∀ (n : Nat) (L M : Lay), numd n (L ++ M) = numd n L ++ numd (n + L.length) M
  | n, [], M => rfl
  | n, none :: L, M => by
    show numd (n + 1) (L ++ M) = numd (n + 1) L ++ numd (n + (L.length + 1)) M
    rw [numd_app]
    congr 2
    omega
  | n, some p :: L, M => by
    show (p, n) :: numd (n + 1) (L ++ M) = (p, n) :: (numd (n + 1) L ++ numd (n + (L.length + 1)) M)
    rw [numd_app]
    congr 3
    omega
theorem numd_num : ∀ (n : Nat) (L : Lay), ((numd n L).map (·.2)).Pairwise (· < ·) ∧ ∀ q ∈ numd n L, n ≤ q.2 ∧ q.2 < n + L.length
  | _, [] => ⟨List.Pairwise.nil, fun q h => nomatch h⟩
  | n, none :: L => by
    obtain ⟨h1, h2⟩ := numd_num (n + 1) L
    refine ⟨h1, fun q hq => ?_⟩
    have := h2 q hq
    rw [List.length_cons]
    omega
  | n, some p :: L => by
    obtain ⟨h1, h2⟩ := numd_num (n + 1) L
    refine ⟨List.pairwise_cons.mpr ⟨fun m hm => ?_, h1⟩, fun q hq => ?_⟩
    · obtain ⟨q, hq, rfl⟩ := List.mem_map.mp hm
      have := (h2 q hq).1
      show n < q.2
      omega
    · rcases List.mem_cons.mp hq with rfl | hq
      · rw [List.length_cons]
        exact ⟨Nat.le_refl _, by show n < _; omega⟩
      · have := h2 q hq
        rw [List.length_cons]
        omega
/-- all ends -/
def eps (L : Lay) : List P5 := (pcs L).flatMap fun p => endsOf p.1 p.2
def Free (L : Lay) : Prop := (eps L).Nodup
theorem eps_inH {L : Lay} {e : P5} (h : e ∈ eps L) : InH e := by
  obtain ⟨p, _, h2⟩ := List.mem_flatMap.mp h
  exact endsOf_inH h2

/-! ### keys -/
def poseK (p : P5) : NestedKey := .tup [.num p.p.a, .num p.p.b, .num p.p.c, .num p.p.d, .num p.h]
def posK (p : P4) : NestedKey := .tup [.num p.a, .num p.b, .num p.c, .num p.d]
theorem poseK_inj {p q : P5} (h : poseK p = poseK q) : p = q := by
  simp only [poseK, NestedKey.tup.injEq, List.cons.injEq, NestedKey.num.injEq, and_true] at h
  exact P5.eq (P4.eq h.1 h.2.1 h.2.2.1 h.2.2.2.1) h.2.2.2.2
theorem alike_pose (p q : P5) : alike (poseK p).data (poseK q).data = true := by
  simp [poseK, NestedKey.data, NestedKey.datas, alike, alikeAll]
theorem alikeAll_of : ∀ (xs ys : List NestedKey), (∀ x ∈ xs, ∀ y ∈ ys, alike x.data y.data = true) → alikeAll (NestedKey.datas xs) (NestedKey.datas ys) = true
  | [], _, _ => by simp [NestedKey.datas, alikeAll]
  | _ :: _, [], _ => by simp [NestedKey.datas, alikeAll]
  | x :: xs, y :: ys, h => by
    simp only [NestedKey.datas, alikeAll, Bool.and_eq_true]
    exact ⟨h x List.mem_cons_self y List.mem_cons_self, alikeAll_of xs ys fun a ha b hb => h a (List.mem_cons_of_mem _ ha) b (List.mem_cons_of_mem _ hb)⟩
theorem alike_poses (ps : List P5) : Alike (ps.map poseK) := fun x hx y hy => by
  obtain ⟨p, _, rfl⟩ := List.mem_map.mp hx
  obtain ⟨q, _, rfl⟩ := List.mem_map.mp hy
  exact alike_pose p q
/-- a shape: kind and ends in order -/
def shp (k : Kd) (es : List P5) : NestedKey := .tup [.text k.str, .tup (ksort (es.map poseK))]
theorem alike_shp (k k' : Kd) (es es' : List P5) : alike (shp k es).data (shp k' es').data = true := by
  have h : alikeAll (NestedKey.datas (ksort (es.map poseK))) (NestedKey.datas (ksort (es'.map poseK))) = true := by
    refine alikeAll_of _ _ fun x hx y hy => ?_
    obtain ⟨p, _, rfl⟩ := List.mem_map.mp (mem_ksort.mp hx)
    obtain ⟨q, _, rfl⟩ := List.mem_map.mp (mem_ksort.mp hy)
    exact alike_pose p q
  simp [shp, NestedKey.data, NestedKey.datas, alike, alikeAll, h]
theorem perm_of_map_inj {α β : Type} [DecidableEq α] {f : α → β} (hf : ∀ x y, f x = f y → x = y) : ∀ {l m : List α}, (l.map f).Perm (m.map f) → l.Perm m
  | [], m, h => by
    have e := h.length_eq
    simp only [List.length_map, List.length_nil] at e
    rw [List.length_eq_zero_iff.mp e.symm]
  | x :: l, m, h => by
    have hx : f x ∈ m.map f := h.mem_iff.mp List.mem_cons_self
    obtain ⟨y, hy, e⟩ := List.mem_map.mp hx
    have e' := hf _ _ e
    subst e'
    have hp := List.perm_cons_erase hy
    have h2 : (l.map f).Perm ((m.erase y).map f) := by
      have h3 := h.trans (hp.map f)
      exact List.Perm.cons_inv h3
    exact ((perm_of_map_inj hf h2).cons y).trans hp.symm
theorem shp_eq {k k' : Kd} {es es' : List P5} : shp k es = shp k' es' ↔ k = k' ∧ es.Perm es' := by
  constructor
  · intro h
    simp only [shp, NestedKey.tup.injEq, List.cons.injEq, NestedKey.text.injEq, and_true] at h
    exact ⟨Kd.inj h.1, perm_of_map_inj (fun _ _ => poseK_inj) (perm_of_ksort h.2)⟩
  · rintro ⟨rfl, h⟩
    unfold shp
    rw [ksort_eq (alike_poses es) (h.map poseK)]
/-- the shape of a piece, taken by a motion -/
def shapeK (m : P5) (p : Piece) : NestedKey := shp p.1 ((endsOf p.1 p.2).map (laid m))
def shapesL (m : P5) (L : Lay) : List (NestedKey × Nat) := (numd 0 L).map fun q => (shapeK m q.1, q.2)
theorem shapesL_fst (m : P5) (L : Lay) : (shapesL m L).map (·.1) = (pcs L).map (shapeK m) := by
  unfold shapesL
  rw [List.map_map, ← numd_fst 0 L, List.map_map]
  rfl
theorem alike_shapes (m : P5) (l : List Piece) : Alike (l.map (shapeK m)) := fun x hx y hy => by
  obtain ⟨p, _, rfl⟩ := List.mem_map.mp hx
  obtain ⟨q, _, rfl⟩ := List.mem_map.mp hy
  exact alike_shp _ _ _ _
theorem alike_shapes2 (m n : P5) (p q : Piece) : alike (shapeK m p).data (shapeK n q).data = true := alike_shp _ _ _ _
/-- in a free layout the shapes are apart -/
theorem shapes_nodup {L : Lay} (hL : Free L) (m : P5) : ((pcs L).map (shapeK m)).Nodup := by
  unfold Free eps at hL
  generalize pcs L = l at hL
  induction l with
  | nil => exact List.nodup_nil
  | cons p l ih =>
    rw [List.flatMap_cons, List.nodup_append] at hL
    obtain ⟨h1, h2, h3⟩ := hL
    rw [List.map_cons, List.nodup_cons]
    refine ⟨fun hm => ?_, ih h2⟩
    obtain ⟨q, hq, e⟩ := List.mem_map.mp hm
    obtain ⟨_, hp⟩ := shp_eq.mp e
    obtain ⟨x, hx⟩ := endsOf_ne q.1 q.2
    have hx2 : laid m x ∈ (endsOf p.1 p.2).map (laid m) := hp.mem_iff.mp (List.mem_map.mpr ⟨x, hx, rfl⟩)
    obtain ⟨y, hy, e2⟩ := List.mem_map.mp hx2
    have e3 := laid_inj (endsOf_inH hy) (endsOf_inH hx) e2
    exact h3 y hy x (List.mem_flatMap.mpr ⟨q, hq, hx⟩) e3

/-! ### motions -/
def isMot (L : Lay) (m : P5) : Prop := ksort ((pcs L).map (shapeK m)) = ksort ((pcs L).map (shapeK home))
instance (L : Lay) (m : P5) : Decidable (isMot L m) := by
  unfold isMot
  exact inferInstance
theorem isMot_perm {L : Lay} {m : P5} : isMot L m ↔ ((pcs L).map (shapeK m)).Perm ((pcs L).map (shapeK home)) :=
  ⟨fun h => perm_of_ksort h, fun h => ksort_eq (alike_shapes m _) h⟩
/-- a key that is not there is put behind -/
def ins {α : Type} [DecidableEq α] (acc : List α) (k : α) : List α := if k ∈ acc then acc else acc ++ [k]
theorem mem_ins {α : Type} [DecidableEq α] {acc : List α} {k x : α} : x ∈ ins acc k ↔ x ∈ acc ∨ x = k := by
  unfold ins
  split
  · rename_i h
    constructor
    · exact .inl
    · rintro (h1 | rfl)
      · exact h1
      · exact h
  · rw [List.mem_append, List.mem_singleton]
theorem nodup_ins {α : Type} [DecidableEq α] {acc : List α} {k : α} (h : acc.Nodup) : (ins acc k).Nodup := by
  unfold ins
  split
  · exact h
  · rename_i q
    rw [List.nodup_append]
    exact ⟨h, by simp, fun a ha b hb => by rw [List.mem_singleton.mp hb]; rintro rfl; exact q ha⟩
/-- the candidates of the ends es, in order, those that are motions, each once -/
def motsOf (L : Lay) (e0 : P5) (acc : List P5) : List P5 → List P5
  | [] => acc
  | e :: es => motsOf L e0 (if isMot L (between e0 e) then ins acc (between e0 e) else acc) es
theorem motsOf_app (L : Lay) (e0 : P5) : ∀ (es fs acc : List P5), motsOf L e0 acc (es ++ fs) = motsOf L e0 (motsOf L e0 acc es) fs
  | [], _, _ => rfl
  | e :: es, fs, acc => motsOf_app L e0 es fs _
theorem mem_motsOf (L : Lay) (e0 : P5) : ∀ (es acc : List P5) (m : P5), m ∈ motsOf L e0 acc es ↔ m ∈ acc ∨ (isMot L m ∧ ∃ e ∈ es, m = between e0 e)
  | [], acc, m => by simp [motsOf]
  | e :: es, acc, m => by
    rw [motsOf, mem_motsOf L e0 es]
    constructor
    · rintro (h | ⟨h1, f, h2, h3⟩)
      · split at h
        · rename_i q
          rcases mem_ins.mp h with h | rfl
          · exact .inl h
          · exact .inr ⟨q, e, List.mem_cons_self, rfl⟩
        · exact .inl h
      · exact .inr ⟨h1, f, List.mem_cons_of_mem _ h2, h3⟩
    · rintro (h | ⟨h1, f, h2, h3⟩)
      · left
        split
        · exact mem_ins.mpr (.inl h)
        · exact h
      · rcases List.mem_cons.mp h2 with rfl | h2
        · left
          subst h3
          rw [if_pos h1]
          exact mem_ins.mpr (.inr rfl)
        · exact .inr ⟨h1, f, h2, h3⟩
theorem motsOf_len (L : Lay) (e0 : P5) : ∀ (es acc : List P5), (motsOf L e0 acc es).length ≤ acc.length + es.length
  | [], acc => by simp [motsOf]
  | e :: es, acc => by
    have h := motsOf_len L e0 es (if isMot L (between e0 e) then ins acc (between e0 e) else acc)
    have h2 : (if isMot L (between e0 e) then ins acc (between e0 e) else acc).length ≤ acc.length + 1 := by
      split
      · unfold ins
        split
        · omega
        · rw [List.length_append]; simp
      · omega
    rw [motsOf, List.length_cons]
    omega
/-- (heading, motion) -/
def hmK (m : P5) : NestedKey := .tup [.num m.h, poseK m]
theorem hmK_inj {m n : P5} (h : hmK m = hmK n) : m = n := by
  simp only [hmK, NestedKey.tup.injEq, List.cons.injEq, and_true] at h
  exact poseK_inj h.2
theorem alike_hm (m n : P5) : alike (hmK m).data (hmK n).data = true := by
  simp [hmK, poseK, NestedKey.data, NestedKey.datas, alike, alikeAll]
def mots (L : Lay) : List P5 := match eps L with
  | [] => []
  | e :: es => sortBy hmK (motsOf L e [] (e :: es))
theorem mem_mots {L : Lay} {e : P5} {es : List P5} (h : eps L = e :: es) {m : P5} : m ∈ mots L ↔ isMot L m ∧ ∃ f ∈ eps L, m = between e f := by
  unfold mots
  rw [h]
  show m ∈ sortBy hmK (motsOf L e [] (e :: es)) ↔ _
  rw [mem_sortBy, mem_motsOf]
  simp
theorem mots_inH {L : Lay} {m : P5} (hm : m ∈ mots L) : InH m := by
  unfold mots at hm
  split at hm
  · cases hm
  · rw [mem_sortBy, mem_motsOf] at hm
    rcases hm with h | ⟨_, f, _, rfl⟩
    · cases h
    · exact between_inH _ _
theorem mots_isMot {L : Lay} {m : P5} (hm : m ∈ mots L) : isMot L m := by
  unfold mots at hm
  split at hm
  · cases hm
  · rw [mem_sortBy, mem_motsOf] at hm
    rcases hm with h | ⟨h, _⟩
    · cases h
    · exact h
theorem home_mots {L : Lay} {e : P5} {es : List P5} (h : eps L = e :: es) : home ∈ mots L :=
  (mem_mots h).mpr ⟨rfl, e, by rw [h]; exact List.mem_cons_self, between_self.symm⟩
/-- a motion takes ends to ends -/
theorem mot_ends {L : Lay} {m : P5} (hm : isMot L m) {e : P5} (he : e ∈ eps L) : laid m e ∈ eps L := by
  obtain ⟨p, hp, he2⟩ := List.mem_flatMap.mp he
  have h1 : shapeK m p ∈ (pcs L).map (shapeK home) := (isMot_perm.mp hm).mem_iff.mp (List.mem_map.mpr ⟨p, hp, rfl⟩)
  obtain ⟨q, hq, e1⟩ := List.mem_map.mp h1
  obtain ⟨_, h2⟩ := shp_eq.mp e1
  have h3 : laid m e ∈ (endsOf q.1 q.2).map (laid home) := h2.mem_iff.mpr (List.mem_map.mpr ⟨e, he2, rfl⟩)
  obtain ⟨f, hf, e2⟩ := List.mem_map.mp h3
  rw [laid_home (endsOf_inH hf)] at e2
  exact List.mem_flatMap.mpr ⟨q, hq, by rw [← e2]; exact hf⟩
theorem perm_lift {α β γ : Type} {g : α → β} {g' : α → γ} (h : ∀ x y, g x = g y → g' x = g' y) {B C : List α} (hp : (B.map g).Perm (C.map g)) : (B.map g').Perm (C.map g') := by
  classical
  by_cases hn : Nonempty γ
  · let g2 : β → γ := fun s => if q : ∃ x, g x = s then g' q.choose else Classical.choice hn
    have e : ∀ x, g2 (g x) = g' x := fun x => by
      show (if q : ∃ y, g y = g x then g' q.choose else Classical.choice hn) = g' x
      have q : ∃ y, g y = g x := ⟨x, rfl⟩
      rw [dif_pos q]
      exact h _ _ q.choose_spec
    have e2 : ∀ l : List α, l.map g' = (l.map g).map g2 := fun l => by
      rw [List.map_map]
      exact List.map_congr_left fun x _ => (e x).symm
    rw [e2, e2]
    exact hp.map g2
  · have e : ∀ l : List α, l = [] := fun l => by
      cases l with
      | nil => rfl
      | cons x _ => exact (hn ⟨g' x⟩).elim
    rw [e B, e C]
/-- one motion behind another one is one -/
theorem mot_comp {L : Lay} {m n : P5} (hm : isMot L m) (hn : isMot L n) : isMot L (laid m n) := by
  rw [isMot_perm] at *
  let B : List (Kd × List P5) := (pcs L).map fun p => (p.1, (endsOf p.1 p.2).map (laid n))
  let C : List (Kd × List P5) := (pcs L).map fun p => (p.1, (endsOf p.1 p.2).map (laid home))
  let g : Kd × List P5 → NestedKey := fun q => shp q.1 q.2
  let g' : Kd × List P5 → NestedKey := fun q => shp q.1 (q.2.map (laid m))
  have hg : ∀ x y, g x = g y → g' x = g' y := fun x y e => by
    obtain ⟨e1, e2⟩ := shp_eq.mp e
    exact shp_eq.mpr ⟨e1, e2.map (laid m)⟩
  have hp : (B.map g).Perm (C.map g) := by
    rw [List.map_map, List.map_map]
    exact hn
  have h1 := perm_lift hg hp
  have e1 : B.map g' = (pcs L).map (shapeK (laid m n)) := by
    rw [List.map_map]
    refine List.map_congr_left fun p _ => ?_
    show shp p.1 (((endsOf p.1 p.2).map (laid n)).map (laid m)) = shp p.1 ((endsOf p.1 p.2).map (laid (laid m n)))
    rw [List.map_map]
    congr 1
    exact List.map_congr_left fun x _ => (laid_assoc m n x).symm
  have e2 : C.map g' = (pcs L).map (shapeK m) := by
    rw [List.map_map]
    refine List.map_congr_left fun p _ => ?_
    show shp p.1 (((endsOf p.1 p.2).map (laid home)).map (laid m)) = shp p.1 ((endsOf p.1 p.2).map (laid m))
    rw [List.map_map]
    congr 1
    refine List.map_congr_left fun x hx => ?_
    show laid m (laid home x) = laid m x
    rw [laid_home (endsOf_inH hx)]
  rw [e1, e2] at h1
  exact h1.trans hm
theorem comp_mots {L : Lay} {m n : P5} (hm : m ∈ mots L) (hn : n ∈ mots L) : laid m n ∈ mots L := by
  cases h : eps L with
  | nil =>
    unfold mots at hm
    rw [h] at hm
    cases hm
  | cons e es =>
    obtain ⟨m1, _⟩ := (mem_mots h).mp hm
    obtain ⟨n1, _⟩ := (mem_mots h).mp hn
    have c := mot_comp m1 n1
    refine (mem_mots h).mpr ⟨c, laid (laid m n) e, mot_ends c (by rw [h]; exact List.mem_cons_self), ?_⟩
    rw [between_laid (laid_inH m n)]
end Mk
set_option Elab.async false
set_option linter.all false
set_option maxRecDepth 100000
set_option maxHeartbeats 2000000
/-! Rules: sorted of nested keys; dicts keyed by them. -/
namespace Mk
open PySem L2 Evl

/-- keys that can be sorted: alike, tuples that are not empty, not deep -/
structure Sorty (ks : List NestedKey) : Prop where
  al : Alike ks
  tup : ∀ k ∈ ks, ∃ x r, k = .tup (x :: r)
  dep : ∀ k ∈ ks, k.data.depth ≤ 8
  few : ks.length ≤ 1000
theorem Sorty.hal {ks : List NestedKey} (h : Sorty ks) : PySem.W.AllAlike (ks.map NestedKey.data) := by
  intro d hd d' hd'
  obtain ⟨k, hk, rfl⟩ := List.mem_map.mp hd
  obtain ⟨k', hk', rfl⟩ := List.mem_map.mp hd'
  exact h.al k hk k' hk'
theorem Sorty.hk {ks : List NestedKey} (h : Sorty ks) : PySem.W.Sortable (ks.map NestedKey.data) := .inl fun d hd => by
  obtain ⟨k, hk, rfl⟩ := List.mem_map.mp hd
  obtain ⟨x, r, rfl⟩ := h.tup k hk
  exact ⟨x.data, NestedKey.datas r, by simp only [NestedKey.data, NestedKey.datas]⟩
theorem Sorty.perm {ks js : List NestedKey} (h : Sorty ks) (p : js.Perm ks) : Sorty js :=
  ⟨fun x hx y hy => h.al x (p.mem_iff.mp hx) y (p.mem_iff.mp hy), fun k hk => h.tup k (p.mem_iff.mp hk), fun k hk => h.dep k (p.mem_iff.mp hk), by rw [p.length_eq]; exact h.few⟩
/-- a model value that reads as the key -/
def RK (K : PySem.W.Frag) (H : Hp) (u : Value) (k : NestedKey) : Prop := ∃ y, RelV y u ∧ Tk K H k y
theorem each_rk {K : PySem.W.Frag} {H : Hp} : ∀ {ks : List NestedKey} {xs : List V} {us : List Value}, Tks K H ks xs → Vals xs us → PySem.W.EachIs (RK K H) us ks
  | [], _, _, h, r => by
    rw [tks_nil.mp h] at r
    cases r
    exact .nil
  | k :: ks, _, _, h, r => by
    obtain ⟨x, q, rfl, h1, h2⟩ := tks_cons.mp h
    cases r with
    | cons r1 r2 => exact .cons ⟨x, r1, h1⟩ (each_rk h2 r2)
theorem rk_each {K : PySem.W.Frag} {H : Hp} : ∀ {ks : List NestedKey} {us : List Value}, PySem.W.EachIs (RK K H) us ks → ∃ xs, Vals xs us ∧ Tks K H ks xs
  | _, _, .nil => ⟨[], .nil, tks_nil.mpr rfl⟩
  | _, _, .cons ⟨y, r, t⟩ e => by
    obtain ⟨xs, h1, h2⟩ := rk_each e
    exact ⟨y :: xs, .cons r h1, tks_cons.mpr ⟨y, xs, rfl, t, h2⟩⟩
theorem line1000 {n : Nat} (h : n ≤ 1000) : n ≤ sizeLine := Nat.le_of_lt (small1000 h)
section
variable {X : Cx} {pins : List (Addr × Obj)} {σ : L2.St} {H : Hp} {s : Shared}
theorem rk_reads (I : Inv X pins σ H s) {us : List Value} {ks : List NestedKey} (e : PySem.W.EachIs (RK X.K H) us ks) : PySem.W.EachIs (fun v (k : NestedKey) => ∃ as, Reads s.heap v k.data as) us ks :=
  e.mono fun _ _ ⟨_, r, t⟩ => Tk.reads I t r
/-- sorted(list) -/
def rSortN (K : PySem.W.Frag) : List V → Hp → VK → Prop := fun vs H Q => ∃ (a : Addr) (xs : List V) (ks : List NestedKey), vs = [.ref a] ∧ SqL K H a xs ∧ Tks K H ks xs ∧ Sorty ks ∧
  ∀ p ys, H p = none → Tks K H (ksort ks) ys → Q (.ref p) (upd H p (.lst ys))
theorem cr_sortN (hu : X.A.units + 64 < cLine) : CallR X (.builtin "sorted") (rSortN X.K) := by
  intro pins s σ H xs us Q I r q
  obtain ⟨a, vs, ks, ex, hl, ht, hs, q⟩ := q
  subst ex
  obtain ⟨u, eu, rx⟩ := vals1 r
  subst eu
  cases rx
  obtain ⟨its, rv, p, hz⟩ := I.list hl
  have e1 := each_rk ht rv
  refine PySem.W.sorted_data (enc := NestedKey.data) p.isList e1 (rk_reads I e1) hs.hal hs.hk (line1000 hs.few) (fun b hb => ?_) fun out ho eo => ?_
  · have := hs.dep b hb
    omega
  obtain ⟨ys, r1, t1⟩ := rk_each eo
  have hn : H (s.heap.objs.size + 1) = none := I.hok.fresh (Nat.le_succ _)
  obtain ⟨c, hc⟩ := PyProof.Rows.sortedAll_at s.heap its (List.toArray out)
  refine ⟨.ref (s.heap.objs.size + 1), upd H (s.heap.objs.size + 1) (.lst ys), I.laid (t' := s.toks) (fun b o e => PyProof.Rows.sortedAll_old e) (Nat.le_succ _) ?_, rfl, q _ ys hn t1⟩
  exact ⟨by rw [r1.length, ho]; exact line1000 hs.few, out, c, r1, hc⟩
end

/-! ### a dict keyed by nested keys -/
/-- the object alone -/
def NRaw (P : Program) (w : World) (d : Addr) (xs : List (NestedKey × Addr × Value)) : Heap → Prop := fun h => (d == sysModules) = false ∧ xs.length ≤ sizeLine ∧
  ∃ o es ep, h.get? d = some o ∧ o.ExactDict ∧ o.data = .dict es ep ∧ es.toList = xs.map (entryOfKey (nestedKind P w)) ∧ (xs.map (·.1)).Nodup
abbrev NT (K : PySem.W.Frag) (H : Hp) : List (NestedKey × V) → List (NestedKey × Addr × Value) → Prop := Paired fun p q => p.1 = q.1 ∧ (Tk K H p.1 (.ref q.2.1) ∧ p.1.depth ≤ 8) ∧ RelV p.2 q.2.2
/-- the dict at d holds the pairs kvs, in order -/
def ND (P : Program) (w : World) (K : PySem.W.Frag) (H : Hp) (d : Addr) (kvs : List (NestedKey × V)) : Prop := ∃ xs, H d = some (.ext (NRaw P w d xs)) ∧ NT K H kvs xs
section
variable {P : Program} {w : World} {K : PySem.W.Frag} {H H' : Hp} {h : Heap} {d : Addr}
theorem NT.ts (e : TSt H H') {kvs : List (NestedKey × V)} {xs : List (NestedKey × Addr × Value)} (r : NT K H kvs xs) : NT K H' kvs xs :=
  Paired.mapP r fun _ _ z => ⟨z.1, ⟨z.2.1.1.to e, z.2.1.2⟩, z.2.2⟩
theorem ND.ts (e : TSt H H') {kvs : List (NestedKey × V)} (n : ND P w K H d kvs) (hd : H' d = H d) : ND P w K H' d kvs := by
  obtain ⟨xs, h1, h2⟩ := n
  exact ⟨xs, by rw [hd]; exact h1, NT.ts e h2⟩
theorem ND.ex (e : Ex H H') {kvs : List (NestedKey × V)} (n : ND P w K H d kvs) : ND P w K H' d kvs := by
  obtain ⟨xs, h1, h2⟩ := n
  exact ⟨xs, e d _ h1, NT.ts (TSt.ex e) h2⟩
theorem ND.some_ (n : ND P w K H d kvs) : ∃ φ, H d = some (.ext φ) := let ⟨_, h1, _⟩ := n; ⟨_, h1⟩
theorem NRaw.stay {xs : List (NestedKey × Addr × Value)} {h1 h2 : Heap} (r : NRaw P w d xs h1) (k : ∀ o, h1.get? d = some o → h2.get? d = some o) : NRaw P w d xs h2 := by
  obtain ⟨a, b, o, es, ep, e1, e2⟩ := r
  exact ⟨a, b, o, es, ep, k o e1, e2⟩
theorem NRaw.ok {xs : List (NestedKey × Addr × Value)} (r : NRaw P w d xs h) : ObjOk P w H h d (.ext (NRaw P w d xs)) := by
  obtain ⟨a, b, o, es, ep, e1, e2⟩ := id r
  exact ⟨r, ⟨o, e1⟩, fun _ _ p k => p.stay k⟩
theorem NT.val {kvs : List (NestedKey × V)} {xs : List (NestedKey × Addr × Value)} (r : NT K H kvs xs) (k : NestedKey) : RelO (valV kvs k) ((atKey xs k).map (·.2)) := by
  induction r with
  | nil => exact True.intro
  | @cons p q ps qs hh t ih =>
    obtain ⟨h1, _, h2⟩ := hh
    by_cases e : p.1 = k
    · have e' : q.1 = k := h1.symm.trans e
      have b : atKey (q :: qs) k = some q.2 := by simp [atKey, List.find?_cons, e']
      rw [valV_pos e, b]
      exact h2
    · have e' : ¬ q.1 = k := fun z => e (h1.trans z)
      have b : atKey (q :: qs) k = atKey qs k := by simp [atKey, List.find?_cons, e']
      rw [valV_neg e, b]
      exact ih
theorem NT.repl {kvs : List (NestedKey × V)} {xs : List (NestedKey × Addr × Value)} (r : NT K H kvs xs) (k : NestedKey) {y : V} {u : Value} (ry : RelV y u) :
    NT K H (kvs.map fun kv => if kv.1 = k then (kv.1, y) else kv) (xs.map (putAt k u)) := by
  induction r with
  | nil => exact .nil
  | @cons p q ps qs hh t ih =>
    rw [List.map_cons, List.map_cons]
    refine .cons ?_ ih
    obtain ⟨h1, h2, h3⟩ := hh
    unfold putAt
    by_cases e : p.1 = k
    · rw [if_pos e, if_pos (h1.symm.trans e)]
      exact ⟨h1, h2, ry⟩
    · rw [if_neg e, if_neg (fun z => e (h1.trans z))]
      exact ⟨h1, h2, h3⟩
theorem NT.put {kvs : List (NestedKey × V)} {xs : List (NestedKey × Addr × Value)} (r : NT K H kvs xs) (k : NestedKey) {b : Addr} {y : V} {u : Value} (hb : Tk K H k (.ref b)) (hd : k.depth ≤ 8) (ry : RelV y u) :
    NT K H (putK kvs k y) (storedH xs k b u) := by
  have e : (kvs.any fun kv => decide (kv.1 = k)) = (atKey xs k).isSome := by
    rw [valV_any, (r.val k).isSome_eq, Option.isSome_map]
  unfold putK storedH
  rw [e]
  by_cases q : (atKey xs k).isSome = true
  · rw [if_pos q, if_pos q]
    exact r.repl k ry
  · rw [if_neg q, if_neg q]
    exact Paired.snoc r ⟨rfl, ⟨hb, hd⟩, ry⟩
theorem NT.keys {kvs : List (NestedKey × V)} {xs : List (NestedKey × Addr × Value)} (r : NT K H kvs xs) : kvs.map (·.1) = xs.map (·.1) := by
  induction r with
  | nil => rfl
  | cons hh t ih => rw [List.map_cons, List.map_cons, ih, hh.1]
end
section
variable {X : Cx} {pins : List (Addr × Obj)} {σ : L2.St} {H : Hp} {s : Shared} {d : Addr} {kvs : List (NestedKey × V)} {A : Around} {E : Value → Shared → Prop}
theorem nt_is (I : Inv X pins σ H s) {xs : List (NestedKey × Addr × Value)} (r : NT X.K H kvs xs) : ∀ x ∈ xs, (nestedKind X.prog X.w).is s.heap x.1 x.2.1 := by
  induction r with
  | nil => exact fun _ h => nomatch h
  | @cons p q ps qs hh t ih =>
    intro x hx
    rcases List.mem_cons.mp hx with e | hx
    · rw [e]
      obtain ⟨h1, ⟨h2, h3⟩, _⟩ := hh
      rw [← h1]
      exact ⟨Tk.is I _ _ _ h2 rfl, h3⟩
    · exact ih x hx
theorem nd_of (I : Inv X pins σ H s) (n : ND X.prog X.w X.K H d kvs) : (d == sysModules) = false ∧ ∃ xs, H d = some (.ext (NRaw X.prog X.w d xs)) ∧ NT X.K H kvs xs ∧ xs.length ≤ sizeLine ∧ s.heap.DictOfH (nestedKind X.prog X.w) d xs := by
  obtain ⟨xs, h1, h2⟩ := n
  obtain ⟨⟨a, b, o, es, ep, e1, e2, e3, e4, e5⟩, _⟩ := I.hok d _ h1
  exact ⟨a, xs, h1, h2, b, o, es, ep, e1, e2, e3, e4, nt_is I h2, e5⟩
theorem nd_room {A : Around} (hu : A.units + 64 < cLine) : (nestedKind X.prog X.w).room A.in1 := by
  show A.units + 1 + 8 < cLine
  omega
/-- {} -/
def tDNewN (P : Program) (w : World) (K : PySem.W.Frag) : TE := fun _ H Q => ∀ p H', H p = none → Ex H H' → (∀ b, b ≠ p → H' b = H b) → ND P w K H' p [] → Q (.ref p) H'
theorem pe_dnewN {pos : Pos} : PE X (.Dict [] [] pos) (tDNewN X.prog X.w X.K) := ⟨fun pins s σ H Q I h => by
  have hn : H s.heap.objs.size = none := I.hok.fresh (Nat.le_refl _)
  have raw : NRaw X.prog X.w s.heap.objs.size [] (s.heap.push { cls := .type "dict", data := .dict #[] }) :=
    ⟨beq_eq_false_iff_ne.mpr (Ne.symm (Nat.ne_of_lt I.big)), Nat.zero_le _, _, #[], 0, Heap.get?_push_size _ rfl, ⟨rfl, rfl, rfl⟩, rfl, rfl, List.nodup_nil⟩
  refine wpAny_Dict_empty ⟨.ref s.heap.objs.size, upd H s.heap.objs.size (.ext (NRaw X.prog X.w s.heap.objs.size [])), I.laid (t' := s.toks) (fun _ _ q => Heap.get?_push_of_some _ q) (Nat.le_refl _) raw.ok, rfl, ?_⟩
  exact h _ _ hn (Ex.new hn) (fun b hb => upd_ne hb) ⟨[], upd_same, .nil⟩⟩
/-- d[k] = v -/
theorem nd_setItem {k : NestedKey} {y v : V} {u r : Value} {Q : Unit → Shared → Prop} (hu : A.units + 64 < cLine) (I : Inv X pins σ H s) (n : ND X.prog X.w X.K H d kvs) (hk : Tk X.K H k y) (hd : k.depth ≤ 8) (ht : ∃ js, k = .tup js) (hl : kvs.length ≤ 1000) (ry : RelV y u) (rv : RelV v r)
    (h : ∀ H' s', Inv X pins σ H' s' → ND X.prog X.w X.K H' d (putK kvs k v) → (∀ b, b ≠ d → H' b = H b) → Q () s') : wpAny (model X.prog X.w) A (setItem (.ref d) u r) Q E s := by
  obtain ⟨js, rfl⟩ := ht
  obtain ⟨b, zs, ey, h1, h2⟩ := tk_tup.mp hk
  subst ey
  cases (show u = Value.ref b from ry)
  obtain ⟨hs, xs, hx, rel, hz, dd⟩ := nd_of I n
  have hkey : (nestedKind X.prog X.w).is s.heap (.tup js) b := ⟨Tk.is I _ _ _ hk rfl, hd⟩
  have hlen : kvs.length = xs.length := Paired.length rel
  refine wpAny_setItem_heap (hsz := hz) (nd_room (X := X) hu) hkey dd fun h' dd' hs' => ?_
  obtain ⟨o, es, ep, e1, e2, e3, e4, _, e5⟩ := dd'
  have rel2 := rel.put (.tup js) hk hd rv
  have hz2 : (storedH xs (.tup js) b r).length ≤ sizeLine := by
    rw [← Paired.length rel2]
    have h3 := length_putK kvs (.tup js) v
    have h4 : sizeLine = 16777216 := sizeLine_eq
    omega
  have raw : NRaw X.prog X.w d (storedH xs (.tup js) b r) h' := ⟨hs, hz2, o, es, ep, e1, e2, e3, e4, e5⟩
  have ts : TSt H (upd H d (.ext (NRaw X.prog X.w d (storedH xs (.tup js) b r)))) := TSt.upd (TSt.refl H) fun ys q => by rw [hx] at q; cases q
  refine h (upd H d (.ext (NRaw X.prog X.w d (storedH xs (.tup js) b r)))) _ (d_write I (by rw [hx]; exact True.intro) hs' ⟨o, e1⟩ raw.ok) ⟨_, upd_same, NT.ts ts rel2⟩ fun c hc => upd_ne hc
end
end Mk
set_option Elab.async false
set_option linter.all false
set_option maxRecDepth 100000
set_option maxHeartbeats 2000000
/-! Rules: reading and writing dicts keyed by nested keys, sorted of them, their items; list of a dict's values. -/
namespace Mk
open PySem L2 Evl

section
variable {X : Cx} {o i value : Expr} {pos pos' : Pos} {td ty tv : TE}
/-- d[k] = v -/
def sNPut (P : Program) (w : World) (K : PySem.W.Frag) (td ty tv : TE) : TS := fun D σ H => tv σ H fun v H1 => td σ H1 fun x H2 => ty σ H2 fun y H3 => ∃ d kvs k, x = .ref d ∧ ND P w K H3 d kvs ∧ Tk K H3 k y ∧ k.depth ≤ 8 ∧ (∃ js, k = .tup js) ∧ kvs.length ≤ 1000 ∧
  ∀ H4, ND P w K H4 d (putK kvs k v) → (∀ b, b ≠ d → H4 b = H3 b) → D.nx σ H4
theorem ps_nput (hu : X.A.units + 64 < cLine) (ho : PE X o td) (hi : PE X i ty) (hv : PE X value tv) (hs : swapsWith value (some (.Subscript o i pos')) pos.line X.env = pure false) :
    PS X (.Assign [.Subscript o i pos'] value pos) (sNPut X.prog X.w X.K td ty tv) := by
  refine ⟨fun pins s σ H D I h => ?_⟩
  refine wpAny_Assign_Subscript (thn (hv.run pins s σ H _ I h) fun r s1 ⟨v, H1, I1, rv, q1⟩ => thn (ho.run pins s1 σ H1 _ I1 q1) fun u s2 ⟨x, H2, I2, rx, q2⟩ => thn (hi.run pins s2 σ H2 _ I2 q2) fun iv s3 ⟨y, H3, I3, ry, d, kvs, k, ex, n, hk, hd, ht, hl, q3⟩ => ?_) hs
  subst ex
  obtain rfl : u = Value.ref d := rx
  exact nd_setItem hu I3 n hk hd ht hl ry rv fun H4 s4 I4 n4 e4 => ⟨σ, H4, I4, q3 H4 n4 e4⟩
/-- d[k], there -/
def tNGet (P : Program) (w : World) (K : PySem.W.Frag) (td ty : TE) : TE := fun σ H Q => td σ H fun x H1 => ty σ H1 fun y H2 => ∃ d kvs k v, x = .ref d ∧ ND P w K H2 d kvs ∧ Tk K H2 k y ∧ k.depth ≤ 8 ∧ (∃ js, k = .tup js) ∧ valV kvs k = some v ∧ Q v H2
theorem pe_nget (hu : X.A.units + 64 < cLine) (ho : PE X o td) (hi : PE X i ty) (hs : NoSl i) : PE X (.Subscript o i pos) (tNGet X.prog X.w X.K td ty) := by
  refine ⟨fun pins s σ H Q I h => ?_⟩
  refine subD_of PySem.F.slot_dict_getitem.lookup hs (thn (ho.run pins s σ H _ I h) fun u s1 ⟨x, H1, I1, rx, q1⟩ => thn (hi.run pins s1 σ H1 _ I1 q1) fun iv s2 ⟨y, H2, I2, ry, d, kvs, k, v, ex, n, hk, hd, ⟨js, ek⟩, l, q2⟩ => ?_)
  subst ex ek
  obtain rfl : u = Value.ref d := rx
  obtain ⟨b, zs, ey, h1, h2⟩ := tk_tup.mp hk
  subst ey
  cases (show iv = Value.ref b from ry)
  obtain ⟨hs', xs, hx, rel, hz, dd⟩ := nd_of I2 n
  obtain ⟨w', hw, rw'⟩ := RelO.some_of (v := v) (o := (atKey xs (.tup js)).map (·.2)) (by rw [← l]; exact rel.val _)
  obtain ⟨p, hp, hp2⟩ := Option.map_eq_some_iff.mp hw
  refine ⟨dd.typeIs, wpAny_getItem_heap (nd_room (X := X) hu) ⟨Tk.is I2 _ _ _ hk rfl, hd⟩ dd hp ?_⟩
  rw [hp2]
  exact ⟨v, H2, I2.tok _, rw', q2⟩
end

/-! ### sorted(d) -/
theorem vals_refs : ∀ as : List Addr, Vals (as.map V.ref) (as.map Value.ref)
  | [] => .nil
  | _ :: as => .cons rfl (vals_refs as)
theorem nt_tks {K : PySem.W.Frag} {H : Hp} {kvs : List (NestedKey × V)} {xs : List (NestedKey × Addr × Value)} (r : NT K H kvs xs) : Tks K H (kvs.map (·.1)) (xs.map fun q => V.ref q.2.1) := by
  induction r with
  | nil => exact tks_nil.mpr rfl
  | cons hh t ih => exact tks_cons.mpr ⟨_, _, rfl, hh.2.1.1, ih⟩
mutual
theorem reads_nil {h : Heap} : ∀ (k : NestedKey) (v : Value) (as : List Addr), Reads h v k.data as → as = []
  | .none, _, _, r => by cases r; rfl
  | .num _, _, _, r => by cases r; rfl
  | .text _, _, _, r => by cases r; rfl
  | .tup ks, _, _, r => by
    have r' : Reads h _ (.tuple (NestedKey.datas ks)) _ := r
    cases r' with
    | tuple h1 h2 h3 h4 => exact readsAll_nil ks _ _ h4
theorem readsAll_nil {h : Heap} : ∀ (ks : List NestedKey) (vs : List Value) (as : List Addr), ReadsAll h vs (NestedKey.datas ks) as → as = []
  | [], _, _, r => by
    have r' : ReadsAll h _ [] _ := r
    cases r'
    rfl
  | k :: ks, _, _, r => by
    have r' : ReadsAll h _ (k.data :: NestedKey.datas ks) _ := r
    cases r' with
    | cons h1 h2 => rw [reads_nil k _ _ h1, readsAll_nil ks _ _ h2]; rfl
end
section
variable {X : Cx}
def rSortND (P : Program) (w : World) (K : PySem.W.Frag) : List V → Hp → VK → Prop := fun vs H Q => ∃ (d : Addr) (kvs : List (NestedKey × V)), vs = [.ref d] ∧ ND P w K H d kvs ∧ Sorty (kvs.map (·.1)) ∧
  ∀ p ys, H p = none → Tks K H (ksort (kvs.map (·.1))) ys → Q (.ref p) (upd H p (.lst ys))
theorem cr_sortND (hu : X.A.units + 64 < cLine) (hcalm : X.calm = true) : CallR X (.builtin "sorted") (rSortND X.prog X.w X.K) := by
  intro pins s σ H xs us Q I r q
  obtain ⟨d, kvs, ex, n, hs, q⟩ := q
  subst ex
  obtain ⟨u, eu, rx⟩ := vals1 r
  subst eu
  cases rx
  obtain ⟨lo, ys, hx, rel, hz, dd⟩ := nd_of I n
  obtain ⟨es, ep, hr, hsz, he⟩ := dd.raw
  have hl : kvs.length = ys.length := Paired.length rel
  refine Calls.call_function_entry PyProof.Rows.kind_sorted PyProof.Rows.plain_sorted PyProof.Rows.entry_sorted (PyProof.Rows.args_sorted1 _) ?_
  unfold Builtin.«sorted»
  refine wpAny_bind (m := checkCount "sorted" 1 1 _) (wpAny_pure ?_)
  refine wpAny_bind (PySem.W.kdu_collect (A := X.A.in1) (KdlSrc.rawDict lo) (I.ok.hd hcalm) hr (by rw [hsz]; exact hz) fun h' tk acc hk hacc => ?_)
  have hal : acc.toList.length = ys.length := by rw [Array.length_toList, hacc.1, hsz]
  have hacc2 : acc.toList = ys.map fun y => Value.ref y.2.1 := by
    refine List.ext_getElem? fun i => ?_
    rw [List.getElem?_map]
    by_cases hi : i < ys.length
    · have h1 : i < acc.toList.length := by omega
      obtain ⟨h2, h3⟩ := hacc.2 i acc.toList[i] (by rw [← Array.getElem?_toList]; exact List.getElem?_eq_getElem h1)
      obtain ⟨y, hy, e1, e2, _⟩ := he i h2
      rw [List.getElem?_eq_getElem h1, h3, hy, e1]
      rfl
    · rw [List.getElem?_eq_none (by omega), List.getElem?_eq_none (by omega)]
      rfl
  have rv : Vals (ys.map fun y => V.ref y.2.1) acc.toList := by
    rw [hacc2]
    have e1 : (ys.map fun y => V.ref y.2.1) = (ys.map fun y => y.2.1).map V.ref := by rw [List.map_map]; rfl
    have e2 : (ys.map fun y => Value.ref y.2.1) = (ys.map fun y => y.2.1).map Value.ref := by rw [List.map_map]; rfl
    rw [e1, e2]
    exact vals_refs _
  have e1 := each_rk (nt_tks rel) rv
  have I1 : Inv X pins σ H { s with heap := h', toks := tk } := I.kept hk
  have few : acc.toList.length ≤ 1000 := by
    have := hs.few
    rw [List.length_map] at this
    omega
  refine wpAny_bind (wpAny_newList ?_ (line1000 few))
  have hoL : (h'.push (PyProof.Rows.seqObj "list" acc.toList.toArray 0)).get? h'.objs.size = some (PyProof.Rows.seqObj "list" acc.toList.toArray 0) := Heap.get?_push_size _ rfl
  show wpAny _ _ _ _ _ { s with heap := h'.push (PyProof.Rows.seqObj "list" acc.toList.toArray 0), toks := tk }
  have I2 : Inv X pins σ H { s with heap := h'.push (PyProof.Rows.seqObj "list" acc.toList.toArray 0), toks := tk } := I1.kept (t' := tk) fun b u e => Heap.get?_push_of_some _ e
  have er : PySem.W.EachIs (fun v (k : NestedKey) => ∃ as, Reads (h'.push (PyProof.Rows.seqObj "list" acc.toList.toArray 0)) v k.data as ∧ h'.objs.size ∉ as) acc.toList (kvs.map (·.1)) := by
    refine e1.mono fun v k ⟨y, ry, ty⟩ => ?_
    obtain ⟨as, hr⟩ := Tk.reads I1 ty ry
    have e0 := reads_nil k _ _ hr
    subst e0
    exact ⟨[], PyProof.Rows.Reads.keeps (fun b o e => Heap.get?_push_of_some _ e) hr, fun hm => nomatch hm⟩
  refine wpAny_bind (wpAny_holding (PySem.W.list_sort_data (s := { s with heap := h'.push (PyProof.Rows.seqObj "list" acc.toList.toArray 0), toks := tk }) (enc := NestedKey.data) (vs := acc.toList) hoL e1 er hs.hal hs.hk (line1000 hs.few) (fun b hb => ?_) fun out ho eo => ?_))
  · have := hs.dep b hb
    show X.A.units + 1 + 1 + _ < _
    omega
  obtain ⟨zs, r1, t1⟩ := rk_each eo
  obtain ⟨e', he'⟩ := PyProof.Rows.sortedHeap_at (vs := acc.toList) (out := List.toArray out) hoL
  refine wpAny_pure ⟨_, rfl, .ref h'.objs.size, upd H h'.objs.size (.lst zs), I1.laid (t' := tk) (fun b u e => ?_) (Nat.le_refl _)
    (show ObjOk X.prog X.w _ _ _ (.lst zs) from ⟨by rw [r1.length, ho]; exact line1000 hs.few, out, e', r1, he'⟩), rfl, q _ zs (I1.hok.fresh (Nat.le_refl _)) t1⟩
  have hb : b < h'.objs.size := Heap.lt_size e
  rw [PyProof.Rows.sortedHeap_old (Nat.ne_of_lt hb) (by rw [PyProof.Rows.size_push']; exact Nat.lt_succ_of_lt hb)]
  exact Heap.get?_push_of_some _ e
end
end Mk
set_option Elab.async false
set_option linter.all false
set_option maxRecDepth 100000
set_option maxHeartbeats 2000000
/-! Rules: the items of a dict keyed by nested keys, list of a dict's values, enumerate of a tuple. -/
namespace Mk
open PySem L2 Evl

/-! ### enumerate(t) -/
set_option maxHeartbeats 4000000 in
theorem meets_enumB {v : Value} {o : Obj} {H : Heap → Prop} (B : Begins v o H) :
    Meets (Builtin.«enumerate.__new__» ⟨[.type "enumerate", v], []⟩) (fun _ R s => H s.heap ∧
      R (.ok (.ret (.ref (s.heap.push o).objs.size))) { s with heap := (s.heap.push o).push { cls := .type "enumerate", data := .fields #[.none, .bool false, .ref s.heap.objs.size, rawInt 0, .none, .none] } }) :=
  .of_wp fun prog w A R s h => by
    obtain ⟨hp, g, d, tk, os⟩ := s
    obtain ⟨h1, h⟩ := h
    have hsub := sub_enumerate
    have q1 : ∀ {A' : Around} {E : Value → Shared → Prop} {Q : Value → Shared → Prop}, Q (.ref hp.objs.size) ⟨hp.push o, g, d, tk, os⟩ → wpAny (model prog w) A' (pyIter v) Q E ⟨hp, g, d, tk, os⟩ :=
      fun q => B.iter prog w _ _ ⟨hp, g, d, tk, os⟩ _ h1 q
    wp_walk using q1
    refine wpAny_stack_any fun st => wpAny_pure ?_
    split
    · rename_i c _ _ _ _ _
      cases (c == Value.type "enumerate")
      · wp_walk using q1
        exact ⟨_, rfl, h⟩
      · wp_walk using q1
        exact ⟨_, rfl, h⟩
    · wp_walk using q1
      exact ⟨_, rfl, h⟩
section
variable {prog : Program} {w : World} {A : Around} {E : Value → Shared → Prop} {s : Shared}
theorem enumB_begins {v : Value} {o : Obj} {H : Heap → Prop} {Q : Value → Shared → Prop} (B : Begins v o H) (h1 : H s.heap)
    (h : ∀ h', IsEnum h' (s.heap.objs.size + 1) s.heap.objs.size 0 .none → h'.get? s.heap.objs.size = some o → h'.objs.size = s.heap.objs.size + 2 →
      (∀ b o, s.heap.get? b = some o → h'.get? b = some o) → Q (.ref (s.heap.objs.size + 1)) { s with heap := h' }) :
    wpAny (model prog w) A (call (.type "enumerate") [v]) Q E s := by
  refine callType_new F.called_enumerate (by decide) (F.typeCall_enumerate_1 _) (F.newCall_enumerate_1 _) (fun obj => F.args_object_init_2 obj _) F.entry_enumerate_new (meets_enumB B) ⟨h1, ?_⟩
  have hz : (s.heap.push o).objs.size = s.heap.objs.size + 1 := Heap.size_push ..
  show _ ∧ _
  rw [hz]
  have he : IsEnum ((s.heap.push o).push { cls := .type "enumerate", data := .fields #[.none, .bool false, .ref s.heap.objs.size, rawInt 0, .none, .none] }) (s.heap.objs.size + 1) s.heap.objs.size 0 .none := by
    have q := Heap.get?_push_size (s.heap.push o) (o := { cls := .type "enumerate", data := .fields #[.none, .bool false, .ref s.heap.objs.size, rawInt 0, .none, .none] }) rfl
    rw [hz] at q
    exact q
  exact ⟨⟨_, he, rfl⟩, h _ he (Heap.get?_push_of_some _ (Heap.get?_push_size _ B.free)) (by rw [Heap.size_push, hz]) fun b o x => Heap.get?_push_of_some _ (Heap.get?_push_of_some _ x)⟩
end
/-- the tuple at a as it stands at each turn, each item in a new pair -/
def IteT (K : PySem.W.Frag) (a : Addr) : It :=
  ⟨fun i H => ∃ (xs : List V) (x : V), SqT K H a xs ∧ xs[i]? = some x, fun i H v H' => ∃ T x, v = .ref T ∧ H T = none ∧ H' = upd H T (.tup [.int (i : Nat), x]) ∧ ∀ xs, SqT K H a xs → xs[i]? = some x, fun i H => ∃ xs : List V, SqT K H a xs ∧ xs.length = i⟩
theorem turn_enumT {P : Program} {w : World} {K : PySem.W.Frag} {elts : List Expr} {kk : Nat} {tpos : Pos} (a e it : Addr) :
    Turn P w K (.Tuple elts kk tpos) (IteT K a) [e, it] e (fun i h => (∃ old, IsEnum h e it ((i : Nat) : Int) old) ∧ h.IsTupleIter it a i ∧ e ≠ it) where
  mem := by simp
  obj := fun i h st b hb => by
    obtain ⟨⟨old, he⟩, ⟨o, ho, hc, hd⟩, _⟩ := st
    have e' : b = e ∨ b = it := by simpa using hb
    rcases e' with z | z
    · rw [z]
      exact ⟨_, he, fun v q => nomatch q⟩
    · rw [z]
      exact ⟨o, ho, fun v q => by rw [hd] at q; cases q⟩
  keep := fun i h h' st k => let ⟨⟨old, he⟩, hi, hne⟩ := st; ⟨⟨old, k e (by simp) _ he⟩, hi.at fun o q => k it (by simp) o q, hne⟩
  item := by
    intro X hP hw hK hc i pins s σ H E I hf st hg
    subst hP hw hK
    obtain ⟨⟨old, he⟩, hit, hne⟩ := st
    obtain ⟨xs, x, hq, hx⟩ := hg
    obtain ⟨its, rv, p, hz⟩ := I.tuple hq
    obtain ⟨u, hu, ru⟩ := rv.get hx
    have hel : e < s.heap.objs.size := Heap.lt_size he
    have hil : it < s.heap.objs.size := by
      obtain ⟨_, q, _⟩ := hit
      exact Heap.lt_size q
    have pt : s.heap.IsTuple a its.toArray := p
    have nae : a ≠ e := fun z => by
      obtain ⟨o, ho, c1, _⟩ := pt
      rw [z, he] at ho
      cases ho
      have c2 : Value.type "enumerate" = Value.type "tuple" := c1
      exact absurd c2 (by decide)
    have nai : a ≠ it := fun z => by
      obtain ⟨o, ho, c1, _⟩ := pt
      obtain ⟨o2, ho2, c2, _⟩ := hit
      rw [z, ho2] at ho
      cases ho
      rw [c2] at c1
      exact absurd c1 (by decide)
    have hlt : i < its.toArray.size := by
      rw [List.size_toArray]
      exact (List.getElem?_eq_some_iff.mp hu).1
    refine wpAny_pyNext_enum_itemC (Draws.tuple (A := X.A.in1) (I.ok.hd hc) it a nai its.toArray) he ⟨hit, pt⟩ hlt hne (by simp [hne, Ne.symm nae]) fun y h' tk hy ho st' hT hsz hk => ?_
    have ey : y = u := by
      have h2 : its.toArray[i]? = some u := by simpa using hu
      rw [h2] at hy
      exact (Option.some.inj hy).symm
    subst ey
    refine ⟨_, rfl, wpAny_letOwnedTupleGo_enum (s := { s with heap := h', toks := tk + 1 }) ho fun h'' he' sb => ?_⟩
    have hT2 : h''.get? s.heap.objs.size = some { cls := .type "tuple", data := .seq #[.int i tk, y] } := (sb.2 _ (Nat.ne_of_gt hel)).trans hT
    have new : ObjOk X.prog X.w (upd H s.heap.objs.size (.tup [.int (i : Nat), x])) h'' s.heap.objs.size (.tup [.int (i : Nat), x]) :=
      ⟨by show 2 ≤ sizeLine; decide, [.int i tk, y], .cons ⟨_, rfl⟩ (.cons ru .nil), ⟨_, hT2, rfl, _, rfl⟩⟩
    have I1 : Inv X pins σ (upd H s.heap.objs.size (.tup [.int (i : Nat), x])) { s with heap := h'', toks := tk + 1 } :=
      I.turnedNew (ch := [e, it]) (fun b ob hb q => (sb.2 b (fun z => hb (by simp [z]))).trans (hk b ob (fun z => hb (by simp [z])) (fun z => hb (by simp [z])) q)) hf (Nat.le_refl _) new
    refine ⟨.ref s.heap.objs.size, _, I1, rfl, ⟨_, x, rfl, I.hok.fresh (Nat.le_refl _), rfl, fun ys hy => by rw [I.tuple_inj hy hq]; exact hx⟩, ⟨⟨y, ?_⟩, st'.1.at fun o q => (sb.2 it (Ne.symm hne)).trans q, hne⟩, fun b hb => ?_⟩
    · have e1 : ((i + 1 : Nat) : Int) = (i : Int) + 1 := by omega
      rw [e1]
      exact he'
    · have hb' : b < s.heap.objs.size := by
        have e' : b = e ∨ b = it := by simpa using hb
        rcases e' with z | z
        · rw [z]; exact hel
        · rw [z]; exact hil
      rw [upd_ne (Nat.ne_of_lt hb')]
      exact (hf b hb).1
  done := by
    intro X hP hw hK hc i pins s σ H E I hf st hg
    subst hP hw hK
    obtain ⟨⟨old, he⟩, hit, hne⟩ := st
    obtain ⟨xs, hq, hx⟩ := hg
    obtain ⟨its, rv, p, hz⟩ := I.tuple hq
    obtain ⟨f0, f1, f2, f3, f4, f5⟩ := hf it (by simp)
    have hl := rv.length
    have pt : s.heap.IsTuple a its.toArray := p
    have nai : a ≠ it := fun z => by
      obtain ⟨o, ho, c1, _⟩ := pt
      obtain ⟨o2, ho2, c2, _⟩ := hit
      rw [z, ho2] at ho
      cases ho
      rw [c2] at c1
      exact absurd c1 (by decide)
    have hn : its.toArray.size = i := by
      rw [List.size_toArray]
      omega
    have hit2 : s.heap.IsTupleIter it a its.toArray.size := by
      rw [hn]
      exact hit
    exact wpAny_pyNext_enum_endD (Draws.tuple (A := X.A.in1) (I.ok.hd hc) it a nai its.toArray) he ⟨hit2, pt⟩ fun h' eb => ⟨rfl, I.turned (t' := s.toks) (fun b o hb q => eb b o hb q) f0 f1 f3 f4 f5⟩
  self := fun A i s Q E st h => let ⟨⟨_, he⟩, _⟩ := st; wpAny_pyIter_enum he h
def iEnumT (K : PySem.W.Frag) (ta : TA) : TI := fun σ H R => ta σ H fun vs H1 => ∃ a xs, vs = [.ref a] ∧ SqT K H1 a xs ∧ R (IteT K a) H1
theorem pi_enumT {X : Cx} {e : Expr} {ta : TA} {p pos tpos : Pos} {elts : List Expr} {kk : Nat} (hg : Gl X "enumerate") (hm : X.mg "enumerate" = none) (ha : PA X [e] ta) (hs : starEach [e] X.env = [(false, eval e X.env)] := by rfl) :
    PI X (.Tuple elts kk tpos) (.Call (.Name "enumerate" p) [e] [] pos) (iEnumT X.K ta) := by
  refine ⟨fun pins s σ H R I h => ?_⟩
  refine PyProof.Rows.Call_ (ld_blt I hg hm PyProof.Rows.boot_enumerate (PyProof.Rows.callWith_type1 (thn (ha.run pos pins s σ H _ I h) fun us s1 ⟨vs, H1, I1, r1, q1⟩ => ?_) hs rfl))
  obtain ⟨a, xs, ex, hq, q⟩ := q1
  subst ex
  cases r1 with
  | cons r rr =>
    cases rr
    cases r
    obtain ⟨its, rv, p', hz⟩ := I1.tuple hq
    refine enumB_begins (begins_tuple a its.toArray) (show s1.heap.IsTuple a its.toArray from p') fun h' he hit hsz hk => wpAny_pyIter_enum he ?_
    have I2 : Inv X pins σ H1 { s1 with heap := h' } := I1.kept (t' := s1.toks) hk
    refine ⟨s1.heap.objs.size + 1, [s1.heap.objs.size + 1, s1.heap.objs.size], _, _, H1, rfl, I2, turn_enumT a (s1.heap.objs.size + 1) s1.heap.objs.size, ⟨⟨.none, he⟩, ⟨_, hit, rfl, rfl⟩, Nat.succ_ne_self _⟩, fun b hb => ?_, q⟩
    have e' : b = s1.heap.objs.size + 1 ∨ b = s1.heap.objs.size := by simpa using hb
    have hle : s1.heap.objs.size ≤ b := by
      rcases e' with z | z
      · rw [z]; exact Nat.le_add_right _ _
      · rw [z]; exact Nat.le_refl _
    exact I1.fpOk hle (I1.hok.fresh hle)
theorem walk_enumT {K : PySem.W.Frag} {a : Addr} {xs : List V} : Walk (IteT K a) xs.length (fun H => SqT K H a xs) (YPair (fun i => some (.int (i : Nat))) (fun i => xs[i]?)) := by
  refine ⟨fun i _ hi q => ⟨xs, xs[i], q, by simp [hi]⟩, fun _ q => ⟨xs, q, rfl⟩, fun i H v H' _ q y => ?_⟩
  obtain ⟨T, x, h1, h2, h3, h4⟩ := y
  exact ⟨T, .int (i : Nat), x, h1, h2, h3, rfl, h4 xs q⟩

/-! ### for k, v in d.items() -/
def Itn (P : Program) (w : World) (d : Addr) (o : Obj) (xs : List (NestedKey × Addr × Value)) : It :=
  ⟨fun i H => H d = some (.frz o (.ext (NRaw P w d xs))) ∧ i < xs.length, fun i H x H' => ∃ T q v, xs[i]? = some q ∧ RelV v q.2.2 ∧ x = .ref T ∧ H T = none ∧ H' = upd H T (.tup [.ref q.2.1, v]),
    fun i H => H d = some (.frz o (.ext (NRaw P w d xs))) ∧ xs.length = i⟩
theorem frzN {X : Cx} {pins : List (Addr × Obj)} {σ : L2.St} {H : Hp} {s : Shared} {d : Addr} {o : Obj} {xs : List (NestedKey × Addr × Value)} (I : Inv X pins σ H s) (h : H d = some (.frz o (.ext (NRaw X.prog X.w d xs)))) :
    (d == sysModules) = false ∧ s.heap.get? d = some o ∧ o.ExactDict ∧ ∃ es ep, o.data = .dict es ep ∧ es.toList = xs.map (entryOfKey (nestedKind X.prog X.w)) := by
  obtain ⟨e, ⟨a, b, o', es, ep, e1, e2, e3, e4, _⟩, _⟩ := I.hok d _ h
  rw [e] at e1
  cases e1
  exact ⟨a, e, e2, es, ep, e3, e4⟩
theorem turn_itemsN {P : Program} {w : World} {K : PySem.W.Frag} {elts : List Expr} {kk : Nat} {tpos : Pos} {d : Addr} {o : Obj} {es : Array DictEntry} {ep : Nat} {xs : List (NestedKey × Addr × Value)} (vs : List V) (hv : Paired (fun v (q : NestedKey × Addr × Value) => RelV v q.2.2) vs xs) (it : Addr) (hod : o.data = .dict es ep) :
    Turn P w K (.Tuple elts kk tpos) (Itn P w d o xs) [it] it (fun i h => ∃ ok ov, IsItemIter h it d i es.size ep ok ov) where
  mem := by simp
  obj := fun i h st b hb => by
    have e : b = it := by simpa using hb
    subst e
    obtain ⟨ok, ov, e⟩ := st
    exact ⟨_, e, fun v z => nomatch z⟩
  keep := fun i h h' st k => let ⟨ok, ov, e⟩ := st; ⟨ok, ov, k it (by simp) _ e⟩
  item := by
    intro X hP hw hK hc i pins s σ H E I hf st hg
    subst hP hw hK
    obtain ⟨hd, hi⟩ := hg
    obtain ⟨hs, hgd, hx, es', ep', hdt, hes⟩ := frzN I hd
    obtain ⟨rfl, rfl⟩ := dict_ep hod hdt
    obtain ⟨ok, ov, he⟩ := st
    have hlt : it < s.heap.objs.size := Heap.lt_size he
    have hsz := size_of_entries hes
    have hi2 : i < es'.size := by omega
    obtain ⟨v, hv1, hv2⟩ : ∃ v, vs[i]? = some v ∧ RelV v xs[i].2.2 := by
      have hl := Paired.length hv
      have h1 : i < vs.length := by omega
      obtain ⟨q, hq, r⟩ := L2.paired_get hv (List.getElem?_eq_getElem h1)
      rw [List.getElem?_eq_getElem hi] at hq
      cases hq
      exact ⟨_, List.getElem?_eq_getElem h1, r⟩
    have hkey : es'[i].key = .ref xs[i].2.1 ∧ es'[i].val = xs[i].2.2 := by
      have h1 := entry_at (knd := nestedKind X.prog X.w) hes i
      rw [Array.getElem?_eq_getElem hi2, List.getElem?_eq_getElem hi] at h1
      have h2 := Option.some.inj h1
      rw [h2]
      exact ⟨rfl, rfl⟩
    refine wpAny_pyNext_items_item_raw he ⟨o, hgd, hx, hdt⟩ hi2 fun h' ho hT hz hk => ?_
    refine ⟨_, rfl, wpAny_letOwnedTupleGo_items (s := { s with heap := h' }) ho fun h'' he' sb => ?_⟩
    rw [hkey.1, hkey.2] at hT
    have hT2 : h''.get? s.heap.objs.size = some { cls := .type "tuple", data := .seq #[.ref xs[i].2.1, xs[i].2.2] } := (sb.2 _ (Nat.ne_of_gt hlt)).trans hT
    have new : ObjOk X.prog X.w (upd H s.heap.objs.size (.tup [.ref xs[i].2.1, v])) h'' s.heap.objs.size (.tup [.ref xs[i].2.1, v]) :=
      ⟨by show 2 ≤ sizeLine; decide, [.ref xs[i].2.1, xs[i].2.2], .cons rfl (.cons hv2 .nil), ⟨_, hT2, rfl, _, rfl⟩⟩
    have I1 : Inv X pins σ (upd H s.heap.objs.size (.tup [.ref xs[i].2.1, v])) { s with heap := h'' } :=
      I.turnedNew (t' := s.toks) (ch := [it]) (fun b ob hb e => (sb.2 b (by simpa using hb)).trans (hk b ob (by simpa using hb) e)) hf (Nat.le_refl _) new
    refine ⟨.ref s.heap.objs.size, _, I1, rfl, ⟨_, xs[i], v, List.getElem?_eq_getElem hi, hv2, rfl, I.hok.fresh (Nat.le_refl _), rfl⟩, ⟨_, _, he'⟩, fun b hb => ?_⟩
    have e : b = it := by simpa using hb
    rw [e, upd_ne (Nat.ne_of_lt hlt)]
    exact (hf it (by simp)).1
  done := by
    intro X hP hw hK hc i pins s σ H E I hf st hg
    subst hP hw hK
    obtain ⟨hd, hi⟩ := hg
    obtain ⟨f0, f1, f2, f3, f4, f5⟩ := hf it (by simp)
    obtain ⟨hs, hgd, hx, es', ep', hdt, hes⟩ := frzN I hd
    obtain ⟨rfl, rfl⟩ := dict_ep hod hdt
    obtain ⟨ok, ov, he⟩ := st
    have hsz := size_of_entries hes
    exact wpAny_pyNext_items_end_raw (I.ok.hd hc) he ⟨o, hgd, hx, hdt⟩ (by omega) fun h' eb => ⟨rfl, I.turned (t' := s.toks) (fun b ob hb e => eb b ob hb e) f0 f1 f3 f4 f5⟩
  self := fun A i s Q E st h => let ⟨_, _, e⟩ := st; wpAny_pyIter_itemiter e h
/-- the dict is known from then on -/
def iItemsN (P : Program) (w : World) (K : PySem.W.Frag) (td : TE) : TI := fun σ H R => td σ H fun x H1 => ∃ d kvs, x = .ref d ∧ ND P w K H1 d kvs ∧ ∀ o xs, NT K H1 kvs xs → R (Itn P w d o xs) (upd H1 d (.frz o (.ext (NRaw P w d xs))))
theorem pi_itemsN {X : Cx} {e : Expr} {td : TE} {apos cpos : Pos} {elts : List Expr} {kk : Nat} {tpos : Pos} (he : PE X e td) (hbase : attributeBase e "items" X.env (eval e X.env) = eval e X.env := by rfl) (hline : (apos.endLine == cpos.line) = true := by rfl) :
    PI X (.Tuple elts kk tpos) (.Call (.Attribute e "items" apos) [] [] cpos) (iItemsN X.prog X.w X.K td) := by
  refine ⟨fun pins s σ H R I h => ?_⟩
  refine wpAny_Call_method (T := "dict") (id := "dict.items") hbase rfl hline F.plainAttrs_dict F.slot_dict_items F.type_dict_items (thn (he.run pins s σ H _ I h) fun u s1 ⟨x, H1, I1, rx, d, kvs, ex, n, q⟩ => ?_)
  subst ex
  obtain rfl : u = Value.ref d := rx
  obtain ⟨lo, xs, hx, rel, hz, dd⟩ := nd_of I1 n
  obtain ⟨o, I2⟩ := I1.lock hx True.intro
  have q2 := q o xs rel
  have hf : (upd H1 d (.frz o (.ext (NRaw X.prog X.w d xs)))) d = some (.frz o (.ext (NRaw X.prog X.w d xs))) := upd_same
  obtain ⟨_, hgd, hxd, es, ep, hdt, hes⟩ := frzN I2 hf
  have hv : Paired (fun v (q : NestedKey × Addr × Value) => RelV v q.2.2) (kvs.map (·.2)) xs := by
    clear q q2 hx n dd I2 hf hes
    induction rel with
    | nil => exact .nil
    | cons hh t ih => exact .cons hh.2.2 (ih (by simp only [List.length_cons] at hz; omega))
  refine ⟨dd.typeIs, ?_, ?_⟩
  · intro b eb
    cases eb
    exact ⟨o, hgd, hxd.2.1⟩
  · show wpAny _ _ (callWith cpos (.builtin "dict.items") [.ref d] [] []) _ X.xe s1
    have hr : s1.heap.DictRaw d es ep := ⟨o, hgd, hxd, hdt⟩
    have I3 : Inv X pins σ (upd H1 d (.frz o (.ext (NRaw X.prog X.w d xs)))) { s1 with heap := s1.heap.push { cls := .type "dict_items", data := .fields #[.ref d] } } := I2.kept (t' := s1.toks) fun b ob q => Heap.get?_push_of_some _ q
    have fin : wpAny (model X.prog X.w) X.A (pyIter (.ref s1.heap.objs.size)) (PIE X pins σ (.Tuple elts kk tpos) R) X.xe { s1 with heap := s1.heap.push { cls := .type "dict_items", data := .fields #[.ref d] } } := by
      refine wpAny_pyIter_items_raw (d := d) (es := es) (ep := ep) ⟨_, Heap.get?_push_size _ rfl, rfl, rfl⟩ (hr.push _) (pi_one (tk := s1.toks) I3 _ (turn_itemsN (K := X.K) _ hv _ hdt) ⟨.none, .none, ?_⟩ q2)
      exact Heap.get?_push_size _ rfl
    exact method_meetsIn F.slot_dict_items F.entry_dict_items rfl (PySem.evalArgs_none ⟨rfl, dd.typeIs, F.args_dict_items_1 _, _, meets_dict_items_raw d lo, ⟨es, ep, hr⟩, fin⟩)
theorem walk_itemsN {P : Program} {w : World} {d : Addr} {o : Obj} {xs : List (NestedKey × Addr × Value)} : Walk (Itn P w d o xs) xs.length (fun H => H d = some (.frz o (.ext (NRaw P w d xs))))
    (fun i H x H' => ∃ T q v, xs[i]? = some q ∧ RelV v q.2.2 ∧ x = .ref T ∧ H T = none ∧ H' = upd H T (.tup [.ref q.2.1, v])) :=
  ⟨fun _ _ hi q => ⟨q, hi⟩, fun _ q => ⟨q, rfl⟩, fun _ _ _ _ _ _ y => y⟩

/-! ### list(d.values()) -/
def valsO (p d : Addr) : HO := .ext fun h => h.IsValuesView p d
theorem valsO_ok {P : Program} {w : World} {H : Hp} {h : Heap} {p d : Addr} (e : h.get? p = some { cls := .type "dict_values", data := .fields #[.ref d] }) : ObjOk P w H h p (valsO p d) :=
  ⟨⟨_, e, rfl, rfl⟩, ⟨_, e⟩, fun h1 h2 x k => let ⟨o, ho, r⟩ := x; ⟨o, k o ho, r⟩⟩
section
variable {X : Cx}
def rVals : V → List V → Hp → VK → Prop := fun x xs H Q => ∃ (a : Addr) (kvs : List (L2.Key × V)), x = .ref a ∧ xs = [] ∧ H a = some (.dK kvs) ∧ ∀ p, H p = none → Q (.ref p) (upd H p (valsO p a))
theorem mt_vals : MtR X "dict.values" rVals := by
  intro pins s σ H x xs v us Q I rx rxs h
  obtain ⟨a, kvs, rfl, rfl, ha, q⟩ := h
  cases rx
  cases rxs
  obtain ⟨z, lo, vs, rel, dd⟩ := dk_of I.hok ha
  refine call_meetsIn F.slot_dict_values dd.typeIs F.entry_dict_values (F.args_dict_values_1 _) (meets_dict_values (mixKind X.prog X.w) a lo) ⟨⟨vs, dd⟩, ?_⟩
  have hf : H s.heap.objs.size = none := I.hok.fresh (Nat.le_refl _)
  exact ⟨.ref s.heap.objs.size, upd H s.heap.objs.size (valsO s.heap.objs.size a), I.laid (t' := s.toks) (fun b u e => Heap.get?_push_of_some _ e) (Nat.le_refl _) (valsO_ok (Heap.get?_push_size _ rfl)), rfl, q _ hf⟩
def rListVals : List V → Hp → VK → Prop := fun xs H Q => ∃ (p a : Addr) (kvs : List (L2.Key × V)), xs = [.ref p] ∧ H p = some (valsO p a) ∧ H a = some (.dK kvs) ∧ ∀ l, H l = none → Q (.ref l) (upd H l (.lst (kvs.map (·.2))))
theorem kvals : ∀ {kvs : List (L2.Key × V)} {vs : List (L2.Key × Value)}, KV kvs vs → Vals (kvs.map (·.2)) (vs.map (·.2))
  | _, _, .nil => .nil
  | _, _, .cons hh t => .cons hh.2 (kvals t)
theorem cr_listVals (hcalm : X.calm = true) : CallR X (.type "list") rListVals := by
  intro pins s σ H xs us Q I r q
  obtain ⟨p, a, kvs, ex, hp, ha, q⟩ := q
  subst ex
  obtain ⟨u, eu, rx⟩ := vals1 r
  subst eu
  cases rx
  obtain ⟨z, lo, vs, rel, dd⟩ := dk_of I.hok ha
  obtain ⟨ep, hat⟩ := dd.dictAt
  obtain ⟨hv, _⟩ := I.hok p _ hp
  have hl : kvs.length = vs.length := rel.length
  refine PySem.W.kdl_call (PySem.W.kdl_values (knd := mixKind X.prog X.w) (kvs := vs) (ep := ep)) (I.ok.hd hcalm) ⟨hv, hat⟩ (by rw [← hl]; exact z) fun h' tk acc c' hk hD hacc => ?_
  have e1 : acc.toList = vs.map (·.2) := by
    refine List.ext_getElem? fun i => ?_
    have hal : acc.toList.length = vs.length := by rw [Array.length_toList]; exact hacc.1
    rw [List.getElem?_map]
    by_cases hi : i < vs.length
    · have h1 : i < acc.toList.length := by omega
      obtain ⟨k, h3⟩ := hacc.2 i acc.toList[i] (by rw [← Array.getElem?_toList]; exact List.getElem?_eq_getElem h1)
      rw [List.getElem?_eq_getElem h1, h3]
      rfl
    · rw [List.getElem?_eq_none (by omega), List.getElem?_eq_none (by omega)]
      rfl
  refine ⟨.ref s.heap.objs.size, upd H s.heap.objs.size (.lst (kvs.map (·.2))), I.laid (t' := tk) hk (Nat.le_refl _)
    (show ObjOk X.prog X.w _ _ _ (.lst (kvs.map (·.2))) from ⟨by rw [List.length_map]; exact z, acc.toList, c', by rw [e1]; exact kvals rel, by rw [Array.toArray_toList]; exact hD⟩), rfl, q _ (I.hok.fresh (Nat.le_refl _))⟩
end
end Mk
set_option Elab.async false
set_option linter.all false
set_option maxRecDepth 100000
set_option maxHeartbeats 2000000
/-! repr of nested data; promises that know that no guard stands. -/
namespace Mk
open PySem PySem.Spec PyProof.Rows L2 Evl

mutual
/-- numbers alone, none of them big -/
def small : NestedKey → Bool
  | .num i => decide (-1000000 ≤ i ∧ i ≤ 1000000)
  | .tup ks => smalls ks
  | .text _ => false
  | .none => false
def smalls : List NestedKey → Bool
  | [] => true
  | k :: ks => small k && smalls ks
end
theorem smalls_iff : ∀ {ks : List NestedKey}, smalls ks = true ↔ ∀ k ∈ ks, small k = true
  | [] => by simp [smalls]
  | k :: ks => by simp [smalls, smalls_iff (ks := ks)]
theorem log2_small {i : Int} (h1 : -1000000 ≤ i) (h2 : i ≤ 1000000) : i.natAbs.log2 < 1920 := by
  have h : i.natAbs < 2 ^ 20 := by
    have e : (2 : Nat) ^ 20 = 1048576 := by decide
    omega
  by_cases h0 : i.natAbs = 0
  · rw [h0]; decide
  · have := (Nat.log2_lt h0).mpr h
    omega
mutual
theorem small_facts : ∀ k : NestedKey, small k = true → k.data.showable = true ∧ k.data.hasDict = false ∧ k.data.leavesShort 13 = true
  | .num i, h => by
    have h' : -1000000 ≤ i ∧ i ≤ 1000000 := by simpa [small] using h
    simp only [NestedKey.data, PyData.showable, PyData.hasDict, PyData.leavesShort, decide_eq_true_eq, true_and]
    exact ⟨log2_small h'.1 h'.2, PyData.shown_int_le2 (by omega) (by omega)⟩
  | .tup ks, h => by
    have h' : smalls ks = true := by simpa only [small] using h
    have g := smalls_facts ks h'
    simp only [NestedKey.data, PyData.showable, PyData.hasDict, PyData.leavesShort]
    exact g
  | .text _, h => by simp [small] at h
  | .none, h => by simp [small] at h
theorem smalls_facts : ∀ ks : List NestedKey, smalls ks = true → PyData.showableAll (NestedKey.datas ks) = true ∧ PyData.hasDictAll (NestedKey.datas ks) = false ∧ PyData.leavesShortAll 13 (NestedKey.datas ks) = true
  | [], _ => by simp [NestedKey.datas, PyData.showableAll, PyData.hasDictAll, PyData.leavesShortAll]
  | k :: ks, h => by
    have h' : small k = true ∧ smalls ks = true := by simpa only [smalls, Bool.and_eq_true] using h
    obtain ⟨a1, a2, a3⟩ := small_facts k h'.1
    obtain ⟨b1, b2, b3⟩ := smalls_facts ks h'.2
    simp only [NestedKey.datas, PyData.showableAll, PyData.hasDictAll, PyData.leavesShortAll, a1, a2, a3, b1, b2, b3, Bool.and_self, Bool.or_self, and_self]
end
/-- how many items there are, all told -/
def bulkK (k : NestedKey) : Nat := k.data.bulk

/-- the key of a written thing that repr may be asked of -/
structure Shows (k : NestedKey) : Prop where
  tup : ∃ js, k = .tup js
  sm : small k = true
  dep : k.data.depth ≤ 8
  blk : k.data.bulk ≤ 100000
def rRepr (K : PySem.W.Frag) : List V → Hp → VK → Prop := fun vs H Q => ∃ (k : NestedKey) (v : V), vs = [v] ∧ Tk K H k v ∧ Shows k ∧ Q (.str k.data.shown) H
theorem cr_repr {X : Cx} (hu : X.A.units + 64 < cLine) (hg : X.A.guards = some []) : CallR X (.builtin "repr") (rRepr X.K) := by
  intro pins s σ H xs us Q I r q
  obtain ⟨k, v, ex, tk, sh, q⟩ := q
  subst ex
  obtain ⟨u, eu, rx⟩ := vals1 r
  subst eu
  obtain ⟨as, hr⟩ := Tk.reads I tk rx
  obtain ⟨f1, f2, f3⟩ := small_facts k sh.sm
  have e20 : (2 : Nat) ^ 20 = 1048576 := by decide
  have hfit : k.data.shown.length ≤ sizeLine := PyData.shown_fits_bulk (B := 13) (by decide) (by decide) f3 (by rw [e20]; have := sh.blk; omega)
  obtain ⟨js, rfl⟩ := sh.tup
  obtain ⟨a, ys, rfl, h1, h2⟩ := tk_tup.mp tk
  cases rx
  have hd := sh.dep
  exact repr_of_reads' hr f1 (PyData.noDict_hsm f2) hg (by omega) (fun b o e => e) (fun h' u t hk => ⟨.str _, H, I.kept hk, ⟨u, rfl⟩, q⟩) hfit

/-! ### a promise that may lean on there being no guard -/
structure GOk (P : Program) (w : World) (K : PySem.W.Frag) (mg : Str → Option Value) (base : Heap) (CX : CXT) (n : Nat) (g : Addr) (fo : FuncData) (names : List Str) (says : Sp) : Prop where
  count : ∀ xs H Q E, says xs H Q E → xs.length = names.length
  go : ∀ (A : Around) (back : List Env) (st : Shared) (H : Hp) (ar : Args) (ys : List Value) (xs : List V) (Q : VK) (E : XK), A.guards = some [] → Room n A → Env0 P w K mg base A back st H → BindsTo st fo ar (names.zip ys) → Vals xs ys → says xs H Q E →
    codeAny (model P w) A (.call (.ref g) ar) (CR CX back P w H st Q E) st
theorem gok_of {CX : CXT} {P : Program} {w : World} {K : PySem.W.Frag} {mg : Str → Option Value} {base : Heap} {n : Nat} {g : Addr} {nm ql : Str} {prs : Arguments} {bd : List Stmt} {sc : Scope} {d0 k0 doc pm cdv ct oc : Value} {an od : Option Addr}
    {slots : Array (Option Value)} {N names : List Str} {says : Sp} (at_ : K.lookup g = some ⟨oc, od, .func (PySem.W.fnOf nm ql prs bd sc d0 k0 doc pm an cdv ct), slots⟩) (coded : PySem.W.codeIn K cdv ql = true) (S : FnScope N names sc)
    (count : ∀ xs H Q E, says xs H Q E → xs.length = names.length)
    (inside : ∀ (A : Around) (back : List Env) (st : Shared) (H : Hp) (xs : List V) (Q : VK) (E : XK), A.guards = some [] → Room n (A.deeper (envOfC ql sc st.heap.objs.size g cdv)) → says xs H Q E →
      ∃ t, PSs (cxOf CX P w K mg base N ql sc g cdv A back st H E) bd t ∧ t { nx := fun _ H' => Q .non H', rt := Q } (start N xs) H) :
    GOk P w K mg base CX (n + 1) g (PySem.W.fnOf nm ql prs bd sc d0 k0 doc pm an cdv ct) names says := by
  refine ⟨count, fun A back st H ar ys xs Q E gd room e0 bound rel says1 => ?_⟩
  have few := count _ _ _ _ says1
  have KX : K.In st.heap := e0.mod.kin.keeps fun b o e => (e0.bs b o e).1
  have lim : st.heap.NoLimit := e0.mod.nolimit.keeps fun b o e => (e0.bs b o e).1
  have kinds : ∀ y ∈ names.zip ys, sc.names.lookup y.1 = some .local ∨ (sc.names.lookup y.1 = some .cell ∧ ((cellsFrom (st.heap.objs.size + 1) sc.names []).lookup y.1).isSome = true) := fun ⟨z, v⟩ hy => by
    rcases S.par z (List.of_mem_zip hy).1 with q | q
    · exact .inl q
    · exact .inr ⟨q, PySem.W.cellsFrom_some _ _ _ (.inl q)⟩
  refine codeAny_call_function room.depth (KX _ _ at_) rfl S.co S.gen rfl (PySem.W.codeRec_of KX coded) (bound _ _ _ _ ?_)
  refine wpAny_newFunctionEnv_cells S.kind kinds fun en hen s1 x => ?_
  subst hen
  refine ⟨lim.keeps x.toInCall.keep, codeAny_func ?_⟩
  obtain ⟨t, ht, hq⟩ := inside A back st H xs Q E gd (room.deeper _) says1
  have J : Inv (cxOf CX P w K mg base N ql sc g cdv A back st H E) [] (start N xs) H s1 := inv_start S room.hd e0 few rel x
  refine wpAny_mono (ht.run [] s1 (start N xs) H _ J hq) (fun fl s' hs => ?_) fun e s' hs => hs
  have done_ : ∀ {σ' : L2.St} {H' : Hp} {v : V} {u : Value}, Inv (cxOf CX P w K mg base N ql sc g cdv A back st H E) [] σ' H' s' → RelV v u → Q v H' → CE back P w H st Q u s' :=
    fun {σ' H' v u} J rv q => ⟨v, H', J.os, J.bare, J.base, J.hok, rv, q⟩
  cases fl with
  | ret u =>
    obtain ⟨v, σ', H', J2, rv, q⟩ := hs
    exact done_ J2 rv q
  | next =>
    obtain ⟨σ', H', J2, q⟩ := hs
    exact done_ (v := V.non) (u := Value.none) J2 rfl q
  | brk => exact hs.elim fun _ z => z.elim fun _ z => z.2.elim
  | cont => exact hs.elim fun _ z => z.elim fun _ z => z.2.elim
theorem gok_fun {P : Program} {w : World} {K : PySem.W.Frag} {mg : Str → Option Value} {base : Heap} {n : Nat} {g : Addr} {nm ql : Str} {df : Stmt} {fo : FuncData} {N names : List Str} {says : Sp} (F : L2.Fun K nm ql df g fo) (S : FnScope N names (defScope df))
    (count : ∀ xs H Q E, says xs H Q E → xs.length = names.length)
    (inside : ∀ (cdv : Value) (A : Around) (back : List Env) (sh : Shared) (H : Hp) (xs : List V) (Q : VK) (E : XK), A.guards = some [] → Room n (A.deeper (envOfC ql (defScope df) sh.heap.objs.size g cdv)) → says xs H Q E →
      ∃ t, PSs (cxOf CX0 P w K mg base N ql (defScope df) g cdv A back sh H E).nox (defBody df) t ∧ t { nx := fun _ H' => Q .non H', rt := Q } (start N xs) H) :
    GOk P w K mg base CX0 (n + 1) g fo names says := by
  obtain ⟨oc, od, kV, doc, pm, an, cdv, ct, slots, rfl, at_, coded⟩ := F.ex
  refine gok_of at_ coded S count fun A back sh H xs Q E gd room sy => ?_
  obtain ⟨t, h1, h2⟩ := inside cdv A back sh H xs Q E gd room sy
  exact ⟨t, h1.nox, h2⟩

section
variable {X : Cx} {CX : CXT} {n : Nat} {g : Addr} {fo : FuncData} {names : List Str} {says : Sp} {E : XK} {x : Str} {p pos : Pos} {e : Expr} {es : List Expr} {t : TA}
theorem pe_callG (F : GOk X.prog X.w X.K X.mg X.base CX n g fo names says) (gd : X.A.guards = some []) (room : Room n X.A) (hg : Gl X x) (hm : X.mg x = some (.ref g)) (kp : PySem.W.keepIn X.K (.ref g) = true) (hb : Binds X.K fo names []) (hx : Passes CX X E)
    (ha : PA X (e :: es) t) (hdb : (x == ("__debug__" : Str)) = false := by decide) (he : starEach (e :: es) X.env = (false, eval e X.env) :: starEach es X.env := by rfl) (hpl : (backTo pos (starEach es X.env)).any (·.1) = false := by rfl) :
    PE X (.Call (.Name x p) (e :: es) [] pos) (tCall says [] E t) := by
  refine ⟨fun pins s σ H Q I h => ?_⟩
  refine wpAny_Call_Name_kw (ld_glob I hg hm ?_ hdb)
  refine PySem.W.callWith_K (h₀ := X.base) I.ok.mod.kin kp (thn (ha.run pos pins s σ H _ I h) fun us s1 ⟨vs, H1, I1, r, q⟩ => ⟨I1.kIn, ?_⟩) he hpl
  have q : says (vs ++ []) H1 Q E := q
  rw [List.append_nil] at q
  have few : (us ++ []).length = names.length := by rw [List.append_nil, ← r.length]; exact F.count _ _ _ _ q
  have bd := hb s1 us I1.kIn few
  rw [List.append_nil] at bd
  refine wpAny_call (codeAny_mono (F.go X.A X.stack s1 H1 ⟨us, []⟩ us vs Q E gd room I1.env0 bd r q) fun r s' hq => ?_)
  cases r with
  | error e => exact hx pins σ H1 s1 e s' I1 hq
  | ok fl =>
    cases fl with
    | ret u => exact I1.after hq
    | next => exact hq.elim
    | brk => exact hq.elim
    | cont => exact hq.elim
end
/-! ### the law's end, its promise of that kind -/
theorem script_side {P : Program} {w : World} {K : PySem.W.Frag} {mg mb : Str → Option Value} {n : Nat} {fa a : Addr} {fo : FuncData} {x : Str} {says : Sp} {s1 : Shared} {vs : List Value} {ns : List Int}
    (kin : K.In s1.heap) (gns : s1.heap.Ns mainGlobals mg) (bns : s1.heap.Ns builtinsNs mb) (boot : ∀ x : Str, x ≠ "__name__" → mb x = bootBuiltins x) (free : s1.heap.NoLimit) (nog : s1.gens = #[])
    (scr : s1.heap.get? a = some { cls := .type "list", data := .seq vs.toArray }) (isints : IntsAre vs ns) (few : ns.length ≤ sizeLine) (room : Room n callerA)
    (F : ∀ base : Heap, K.In base → base.Ns mainGlobals mg → GOk P w K mg base CX0 n fa fo [x] says) (bind : ∀ (s : Shared) (u : Value), BindsTo s fo ⟨[u], []⟩ [(x, u)])
    (hs : ∀ H : Hp, SqL K H a (ns.map V.int) → says [.ref a] H (fun v _ => v = .bl true) fun _ _ _ => False) :
    codeAny (model P w) callerA (.call (.ref fa) ⟨[.ref a], []⟩) (fun r s' => r = .ok (.ret (.bool true)) ∧ OldK s1.heap s'.heap ∧ s'.os = s1.os ∧ AllBare s'.gens) s1 := by
  have rel : Vals (ns.map V.int) vs := vals_ints isints
  have same : vs.length = ns.length := isints.length
  -- what is tracked is the script alone, and it is held fast
  have main_ : ∀ H : Hp, (∀ b u, H b = some u → b = a ∧ u = .frz { cls := .type "list", data := .seq vs.toArray } (.lst (ns.map V.int))) → SqL K H a (ns.map V.int) → HOk P w H s1.heap → (H a ≠ none → K.lookup a = none) →
      codeAny (model P w) callerA (.call (.ref fa) ⟨[.ref a], []⟩) (fun r s' => r = .ok (.ret (.bool true)) ∧ OldK s1.heap s'.heap ∧ s'.os = s1.os ∧ AllBare s'.gens) s1 := by
    intro H only hS hok hK
    have nota : ∀ {b : Addr}, b ≠ a → H b = none := fun {b} ne => by
      cases q : H b with
      | none => rfl
      | some u => exact absurd (only b u q).1 ne
    have under : ∀ {b : Addr} {o : Obj}, s1.heap.get? b = some o → H b = none → (hidT s1.heap H).get? b = some o := fun e z => hidT_get e z
    have dict_ne : ∀ {b : Addr} {o : Obj} {es : Array DictEntry} {ep : Nat}, s1.heap.get? b = some o → o.data = .dict es ep → b ≠ a := fun {b o es ep} e d z => by
      subst z
      rw [scr] at e
      cases e
      have d2 : Data.seq vs.toArray _ = Data.dict es ep := d
      cases d2
    have ns_under : ∀ {b : Addr} {m : Str → Option Value}, s1.heap.Ns b m → (hidT s1.heap H).Ns b m := fun {b m} ⟨o, es, ep, e, d, r⟩ => ⟨o, es, ep, under e (nota (dict_ne e d)), d, r⟩
    have kin2 : K.In (hidT s1.heap H) := fun b o e => under (kin b o e) (by
      by_cases z : b = a
      · subst z
        cases q : H b with
        | none => rfl
        | some u =>
          have := hK (by rw [q]; simp)
          rw [this] at e
          cases e
      · exact nota z)
    have md : Mod K mg (hidT s1.heap H) := ⟨kin2, ns_under gns, ⟨mb, ns_under bns, boot⟩, by
      obtain ⟨mc, c1, c2⟩ := free
      exact ⟨mc, ns_under c1, c2⟩⟩
    have none_ : ∀ {b : Addr}, b ∉ ([] : List Addr) := fun {b} z => by cases z
    have e0 : Env0 P w K mg (hidT s1.heap H) callerA [] s1 H := ⟨rfl, md, fun b o e => of_hidT e, Nat.le_of_eq (hidT_size _ _), trivial, fun b z => absurd (show b ∈ ([] : List Addr) from z) none_, hok, .of_eq nog⟩
    refine codeAny_mono ((F _ kin2 (ns_under gns)).go callerA [] s1 H ⟨[.ref a], []⟩ [.ref a] [.ref a] _ _ rfl room e0 (bind s1 (.ref a)) (.cons rfl .nil) (hs H hS)) fun r s' h => ?_
    cases r with
    | error e => exact h.elim
    | ok fl =>
      cases fl with
      | next => exact h.elim
      | brk => exact h.elim
      | cont => exact h.elim
      | ret u =>
        obtain ⟨v, H', eo, bare, un, hok2, rv, ev⟩ := h
        have ev2 : v = .bl true := ev
        subst ev2
        have eu : u = Value.bool true := rv
        subst eu
        refine ⟨rfl, OldK.of_keep fun b o e => ?_, eo, bare⟩
        cases q : H b with
        | none => exact un.keep b o e q (fun z => none_ (show b ∈ ([] : List Addr) from z)) none_
        | some u =>
          obtain ⟨rfl, rfl⟩ := only b u q
          have z2 := un.frzs b _ _ q
          obtain ⟨e1, _⟩ := hok b _ q
          obtain ⟨e2, _⟩ := hok2 b _ z2
          rw [e] at e1
          cases e1
          exact e2
  cases hk : K.lookup a with
  | some o =>
    have e := kin a o hk
    rw [scr] at e
    cases e
    exact main_ (fun _ => none) (fun b u z => by cases (show (none : Option HO) = some u from z)) (.inr ⟨_, vs.toArray, _, hk, rfl, rfl, rfl, by rw [List.size_toArray, same]; exact few, by simpa using rel⟩)
      (fun b u z => by cases (show (none : Option HO) = some u from z)) fun z => absurd rfl z
  | none =>
    let H0 : Hp := fun b => if b = a then some (.frz { cls := .type "list", data := .seq vs.toArray } (.lst (ns.map V.int))) else none
    have only : ∀ b u, H0 b = some u → b = a ∧ u = .frz { cls := .type "list", data := .seq vs.toArray } (.lst (ns.map V.int)) := fun b u z => by
      by_cases hb : b = a
      · have z2 := (if_pos hb).symm.trans z
        cases z2
        exact ⟨hb, rfl⟩
      · have z2 := (if_neg hb).symm.trans z
        cases z2
    refine main_ H0 only (.inl (.inr ⟨{ cls := .type "list", data := .seq vs.toArray }, if_pos rfl⟩)) (fun b u z => ?_) fun _ => hk
    obtain ⟨rfl, rfl⟩ := only b u z
    exact ⟨scr, by rw [List.length_map]; exact few, vs, _, rel, scr⟩
theorem walk_G {l : PySem.W.OpenLaw} {top n : Nat} {q : Program} {loose : List Str} {XP : (Str → Option Value) → Heap → Prop} {YP : World → Heap → Prop} {d : DefRec} {K : Params → PySem.W.Frag} {says : World → Sp} {x : Str}
    (most : l.most = some top) (fits : top ≤ sizeLine) (nodf : d.params.defaults = []) (room : Room n callerA)
    (hY : ∀ (w : World) (h : Heap), YP w h → (K w.params).In h)
    (F : ∀ (w : World) (mg : Str → Option Value) (fa : Addr) (h : Heap), (K w.params).In h → h.Ns mainGlobals mg → mg d.name = some (.ref fa) →
      ∃ fo : FuncData, (∀ (s : Shared) (u : Value), BindsTo s fo ⟨[u], []⟩ [(x, u)]) ∧
        ∀ base : Heap, (K w.params).In base → base.Ns mainGlobals mg → GOk l.prog w (K w.params) mg base CX0 n fa fo [x] (says w))
    (hs : ∀ (w : World) (H : Hp) (a : Addr) (ns : List Int), ns.length ≤ top → SqL (K w.params) H a (ns.map V.int) → says w [.ref a] H (fun v _ => v = .bl true) fun _ _ _ => False) :
    PySem.W.WalkO q loose XP YP l.row.toRowW d [] (fun f vs => PySem.call f vs) := by
  refine Att.attach_call most nodf fun w s₀ s1 mg mb fa o pm cd doc a vs ns G Y ho hd hcd hmg hobj hints hlen hg => ?_
  have kin := hY w _ Y
  obtain ⟨fo, bind, hF⟩ := F w mg fa _ kin G.T.g hmg
  exact script_side kin G.T.g G.T.b G.T.builtins G.T.nolimit hg hobj hints (Nat.le_trans hlen fits) room hF bind fun H hS => hs w H a ns hlen hS
end Mk
set_option Elab.async false
set_option linter.all false
set_option maxRecDepth 100000
set_option maxHeartbeats 2000000
/-! What a reading evaluates to, told by properties of the value and the heap that steps keep. -/
namespace Mk
open PySem L2 Evl

/-- a kind of step of the heap -/
structure Tr where
  r : Hp → Hp → Prop
  refl : ∀ H, r H H
  trans : ∀ {H H1 H2}, r H H1 → r H1 H2 → r H H2
  ts : ∀ {H H'}, r H H' → TSt H H'
  ex : ∀ {H H'}, Ex H H' → r H H'
  ok : Addr → Prop
  keep : ∀ {H H' a o}, r H H' → ok a → H a = some o → H' a = some o
  fresh : ∀ {H H' p}, r H H' → H' p = none → H p = none
/-- nothing changes -/
def tx : Tr := ⟨Ex, Ex.refl, fun a b => a.trans b, fun e => TSt.ex e, fun e => e, fun _ => True, fun e _ h => e _ _ h, fun e h => fresh_back e h⟩

/-- a property of a value -/
structure Ds (R : Tr) where
  p : Hp → V → Prop
  mono : ∀ {H H' v}, R.r H H' → p H v → p H' v
/-- reads as k -/
def dK (R : Tr) (K : PySem.W.Frag) (k : NestedKey) : Ds R := ⟨fun H v => Tk K H k v, fun e h => h.to (R.ts e)⟩
/-- is v -/
def dV (R : Tr) (v : V) : Ds R := ⟨fun _ x => x = v, fun _ h => h⟩
theorem sqL_keep {R : Tr} {K : PySem.W.Frag} {H H' : Hp} {a : Addr} {xs : List V} (e : R.r H H') (ok : R.ok a) (h : SqL K H a xs) : SqL K H' a xs := by
  rcases h with (h | ⟨o, h⟩) | h
  · exact .inl (.inl (R.keep e ok h))
  · exact .inl (.inr ⟨o, R.keep e ok h⟩)
  · exact .inr h
/-- a list that reads as ks -/
def isL (R : Tr) (K : PySem.W.Frag) (ks : List NestedKey) (H : Hp) (v : V) : Prop := ∃ a xs, v = .ref a ∧ R.ok a ∧ SqL K H a xs ∧ Tks K H ks xs
def dL (R : Tr) (K : PySem.W.Frag) (ks : List NestedKey) : Ds R := ⟨isL R K ks, fun e ⟨a, xs, h1, h2, h3, h4⟩ => ⟨a, xs, h1, h2, sqL_keep e h2 h3, h4.to (R.ts e)⟩⟩
/-- a list or a tuple -/
def isS (R : Tr) (K : PySem.W.Frag) (ks : List NestedKey) (H : Hp) (v : V) : Prop := isL R K ks H v ∨ Tk K H (.tup ks) v
def dS (R : Tr) (K : PySem.W.Frag) (ks : List NestedKey) : Ds R := ⟨isS R K ks, fun e h => h.elim (fun h => .inl ((dL R K ks).mono e h)) fun h => .inr (h.to (R.ts e))⟩
/-- the properties of a list of values -/
def DA {R : Tr} : List (Ds R) → Hp → List V → Prop
  | [], _, vs => vs = []
  | d :: ds, H, vs => ∃ v r, vs = v :: r ∧ d.p H v ∧ DA ds H r
theorem DA.mono {R : Tr} {H H' : Hp} (e : R.r H H') : ∀ {ds : List (Ds R)} {vs : List V}, DA ds H vs → DA ds H' vs
  | [], _, h => h
  | d :: ds, _, ⟨v, r, h1, h2, h3⟩ => ⟨v, r, h1, d.mono e h2, DA.mono e h3⟩

theorem pN {R : Tr} {K : PySem.W.Frag} {H : Hp} {i : Int} {x : V} (h : (dK R K (.num i)).p H x) : x = .int i := (tk_num (K := K) (H := H)).mp h
theorem pX {R : Tr} {K : PySem.W.Frag} {H : Hp} {i : Str} {x : V} (h : (dK R K (.text i)).p H x) : x = .str i := (tk_text (K := K) (H := H)).mp h
theorem pT {R : Tr} {K : PySem.W.Frag} {H : Hp} {ks : List NestedKey} {x : V} (h : (dK R K (.tup ks)).p H x) : ∃ a xs, x = .ref a ∧ TT K H a xs ∧ Tks K H ks xs := (tk_tup (K := K) (H := H)).mp h
theorem tkn {K : PySem.W.Frag} {H : Hp} (i : Int) : Tk K H (.num i) (.int i) := tk_num.mpr rfl
theorem tkx {K : PySem.W.Frag} {H : Hp} (x : Str) : Tk K H (.text x) (.str x) := tk_text.mpr rfl
theorem tkz {K : PySem.W.Frag} {H : Hp} : Tk K H .none .non := tk_none.mpr rfl
theorem mN {R : Tr} {K : PySem.W.Frag} {H : Hp} {i : Int} : (dK R K (.num i)).p H (.int i) := tkn (K := K) (H := H) i
theorem mX {R : Tr} {K : PySem.W.Frag} {H : Hp} {i : Str} : (dK R K (.text i)).p H (.str i) := tkx (K := K) (H := H) i
theorem mT {R : Tr} {K : PySem.W.Frag} {H : Hp} {ks : List NestedKey} {a : Addr} {xs : List V} (h1 : TT K H a xs) (h2 : Tks K H ks xs) : (dK R K (.tup ks)).p H (.ref a) := (tk_tup (K := K) (H := H)).mpr ⟨a, xs, rfl, h1, h2⟩
def ED (R : Tr) (te : TE) (σ : L2.St) (H : Hp) (d : Ds R) : Prop := ∀ H1, R.r H H1 → ∀ Q : VK, (∀ v H2, R.r H1 H2 → d.p H2 v → Q v H2) → te σ H1 Q
def EA (R : Tr) (ta : TA) (σ : L2.St) (H : Hp) (ds : List (Ds R)) : Prop := ∀ H1, R.r H H1 → ∀ Q : List V → Hp → Prop, (∀ vs H2, R.r H1 H2 → DA ds H2 vs → Q vs H2) → ta σ H1 Q
def ET (R : Tr) (tt : L2.TT) (σ : L2.St) (H : Hp) (b : Bool) : Prop := ∀ H1, R.r H H1 → ∀ Q : Bool → Hp → Prop, (∀ H2, R.r H1 H2 → Q b H2) → tt σ H1 Q
/-- a new list; P of its values -/
def EL (R : Tr) (te : TE) (σ : L2.St) (H : Hp) (P : Hp → List V → Prop) : Prop := ∀ H1, R.r H H1 → ∀ Q : VK, (∀ p xs H2, H1 p = none → R.r H1 H2 → H2 p = some (.lst xs) → P H2 xs → Q (.ref p) H2) → te σ H1 Q
/-- the same, its values keys -/
abbrev ELk (R : Tr) (K : PySem.W.Frag) (te : TE) (σ : L2.St) (H : Hp) (ks : List NestedKey) : Prop := EL R te σ H fun H2 xs => Tks K H2 ks xs
def EO (R : Tr) (to : TO) (σ : L2.St) (H : Hp) (o : Option Int) : Prop := ∀ H1, R.r H H1 → ∀ Q : Option Int → Hp → Prop, (∀ H2, R.r H1 H2 → Q o H2) → to σ H1 Q

section
variable {R : Tr} {K : PySem.W.Frag} {σ : L2.St} {H H' : Hp} {ta tb te : TE} {t u : L2.TT} {d d1 d2 : Ds R} {v : V} {k : NestedKey} {ks : List NestedKey}
theorem ED.mono (e : R.r H H') (h : ED R te σ H d) : ED R te σ H' d := fun H1 a Q q => h H1 (R.trans e a) Q q
theorem ET.mono {b : Bool} (e : R.r H H') (h : ET R t σ H b) : ET R t σ H' b := fun H1 a Q q => h H1 (R.trans e a) Q q
theorem EA.mono {ta : TA} {ds : List (Ds R)} (e : R.r H H') (h : EA R ta σ H ds) : EA R ta σ H' ds := fun H1 a Q q => h H1 (R.trans e a) Q q
theorem EL.mono {P : Hp → List V → Prop} (e : R.r H H') (h : EL R te σ H P) : EL R te σ H' P := fun H1 a Q q => h H1 (R.trans e a) Q q
/-- another property that follows -/
theorem ED.imp (h : ED R te σ H d1) (i : ∀ H2 v, R.r H H2 → d1.p H2 v → d2.p H2 v) : ED R te σ H d2 := fun H1 e Q q => h H1 e Q fun v H2 e2 p => q v H2 e2 (i H2 v (R.trans e e2) p)
theorem ed_v {i : Nat} (h : σ[i]? = some (some v)) (p : d.p H v) : ED R (tVar i) σ H d := fun H1 e _ q => ⟨v, h, q v H1 (R.refl H1) (d.mono e p)⟩
theorem ed_c (p : d.p H v) : ED R (tC v) σ H d := fun H1 e _ q => q v H1 (R.refl H1) (d.mono e p)
theorem ed_int {i : Int} : ED R (tC (.int i)) σ H (dK R K (.num i)) := ed_c (d := dK R K (.num i)) (tkn (K := K) (H := H) i)
theorem ed_str {x : Str} : ED R (tC (.str x)) σ H (dK R K (.text x)) := ed_c (d := dK R K (.text x)) (tkx (K := K) (H := H) x)
theorem ed_non : ED R (tC .non) σ H (dK R K .none) := ed_c (d := dK R K .none) (tkz (K := K) (H := H))
/-- a two-place operation: from the properties of both -/
theorem ed_op {r : R2} (ha : ED R ta σ H d1) (hb : ED R tb σ H d2) (hr : ∀ x y H1, R.r H H1 → d1.p H1 x → d2.p H1 y → ∀ Q : VK, (∀ v H2, R.r H1 H2 → d.p H2 v → Q v H2) → r x y H1 Q) : ED R (tOp r ta tb) σ H d := fun H1 e Q q =>
  ha H1 e _ fun x H2 e2 p => hb H2 (R.trans e e2) _ fun y H3 e3 p2 => hr x y H3 (R.trans (R.trans e e2) e3) (d1.mono e3 p) p2 Q fun v H4 e4 p4 => q v H4 (R.trans (R.trans e2 e3) e4) p4
theorem ed_I0 {g : Int → Int → V} {i j : Int} (hk : Tk K H k (g i j)) (ha : ED R ta σ H (dK R K (.num i))) (hb : ED R tb σ H (dK R K (.num j))) : ED R (tOp (rI0 g) ta tb) σ H (dK R K k) :=
  ed_op ha hb fun x y H1 e px py Q q => ⟨i, j, pN px, pN py, q _ H1 (R.refl H1) (hk.to (R.ts e))⟩
theorem ed_I {C : Int → Int → Prop} {g : Int → Int → V} {i j : Int} (hc : C i j) (hk : Tk K H k (g i j)) (ha : ED R ta σ H (dK R K (.num i))) (hb : ED R tb σ H (dK R K (.num j))) : ED R (tOp (rI C g) ta tb) σ H (dK R K k) :=
  ed_op ha hb fun x y H1 e px py Q q => ⟨i, j, pN px, pN py, hc, q _ H1 (R.refl H1) (hk.to (R.ts e))⟩
/-- bools are exact values -/
theorem ed_I0b {g : Int → Int → V} {i j : Int} (ha : ED R ta σ H (dK R K (.num i))) (hb : ED R tb σ H (dK R K (.num j))) : ED R (tOp (rI0 g) ta tb) σ H (dV R (g i j)) :=
  ed_op ha hb fun x y H1 e px py Q q => ⟨i, j, pN px, pN py, q _ H1 (R.refl H1) rfl⟩
theorem ed_eqn {i j : Int} (ha : ED R ta σ H (dK R K (.num i))) (hb : ED R tb σ H (dK R K (.num j))) : ED R (tOp rEq ta tb) σ H (dV R (.bl (decide (i = j)))) :=
  ed_op ha hb fun x y H1 e px py Q q => by
    rw [pN px, pN py]
    refine ⟨rfl, q _ H1 (R.refl H1) ?_⟩
    show V.bl _ = V.bl _
    congr 1
    simp
theorem ed_eqs {i j : Str} (ha : ED R ta σ H (dK R K (.text i))) (hb : ED R tb σ H (dK R K (.text j))) : ED R (tOp rEq ta tb) σ H (dV R (.bl (decide (i = j)))) :=
  ed_op ha hb fun x y H1 e px py Q q => by
    rw [pX px, pX py]
    refine ⟨rfl, q _ H1 (R.refl H1) ?_⟩
    show V.bl _ = V.bl _
    congr 1
    simp
theorem et_v {b : Bool} (h : ED R te σ H (dV R (.bl b))) : ET R (tTest te) σ H b := fun H1 e _ q => h H1 e _ fun v H2 e2 p => ⟨b, p, q H2 e2⟩
theorem ed_bl {b : Bool} : ED R (tC (.bl b)) σ H (dV R (.bl b)) := ed_c (d := dV R (.bl b)) rfl
theorem at_nat {α : Type} {xs : List α} {i : Nat} : atI xs (i : Int) = xs[i]? := by
  unfold atI ixN
  by_cases h : i < xs.length
  · rw [if_pos (by omega), if_pos (by omega)]
    rfl
  · rw [if_pos (by omega), if_neg (by omega), List.getElem?_eq_none (by omega)]
    rfl
theorem at_last {α : Type} {xs : List α} {x : α} (h : xs.getLast? = some x) : atI xs (-1) = some x := by
  rw [List.getLast?_eq_getElem?] at h
  have h1 := (List.getElem?_eq_some_iff.mp h).1
  unfold atI ixN
  rw [if_neg (by omega), if_pos (by omega)]
  show xs[((-1 : Int) + (xs.length : Int)).toNat]? = some x
  rw [show ((-1 : Int) + (xs.length : Int)).toNat = xs.length - 1 by omega]
  exact h
/-- an item of a list or tuple, of any sign -/
theorem tks_atI {xs : List V} {i : Int} (h : Tks K H ks xs) (e : atI ks i = some k) : ∃ x, atI xs i = some x ∧ Tk K H k x := by
  unfold atI at *
  rw [h.len]
  cases q : ixN ks.length i with
  | none => rw [q] at e; cases e
  | some j =>
    rw [q] at e
    exact h.at_ e
theorem ed_ixS {i : Int} (e : atI ks i = some k) (ha : ED R ta σ H (dS R K ks)) (hb : ED R tb σ H (dK R K (.num i))) : ED R (tOp (rIx K) ta tb) σ H (dK R K k) :=
  ed_op ha hb fun x y H1 _ px py Q q => by
    rw [pN py]
    rcases px with ⟨a, xs, rfl, ok, hs, ht⟩ | px
    · obtain ⟨z, h1, h2⟩ := tks_atI ht e
      exact .inl ⟨a, xs, i, z, rfl, rfl, hs, h1, q z H1 (R.refl H1) h2⟩
    · obtain ⟨a, xs, rfl, hs, ht⟩ := pT (R := R) px
      obtain ⟨z, h1, h2⟩ := tks_atI ht e
      exact .inr (.inl ⟨a, xs, i, z, rfl, rfl, hs.sq, h1, q z H1 (R.refl H1) h2⟩)
theorem ED.s_of_t (h : ED R te σ H (dK R K (.tup ks))) : ED R te σ H (dS R K ks) := h.imp fun _ _ _ p => .inr p
theorem ED.s_of_l (h : ED R te σ H (dL R K ks)) : ED R te σ H (dS R K ks) := h.imp fun _ _ _ p => .inl p
theorem ed_ixT {i : Int} (e : atI ks i = some k) (ha : ED R ta σ H (dK R K (.tup ks))) (hb : ED R tb σ H (dK R K (.num i))) : ED R (tOp (rIx K) ta tb) σ H (dK R K k) := ed_ixS e ha.s_of_t hb
theorem ed_ixL {i : Int} (e : atI ks i = some k) (ha : ED R ta σ H (dL R K ks)) (hb : ED R tb σ H (dK R K (.num i))) : ED R (tOp (rIx K) ta tb) σ H (dK R K k) := ed_ixS e ha.s_of_l hb
theorem ed_ixX {w : Str} {i : Int} {c : Nat} (hw : w.length ≤ 100000) (e : atI w.cps.toList i = some c) (ha : ED R ta σ H (dK R K (.text w))) (hb : ED R tb σ H (dK R K (.num i))) : ED R (tOp (rIx K) ta tb) σ H (dK R K (.text ⟨#[c]⟩)) :=
  ed_op ha hb fun x y H1 _ px py Q q => by
    rw [pN py, pX px]
    exact .inr (.inr ⟨w, i, c, rfl, rfl, sz_of hw, e, q _ H1 (R.refl H1) mX⟩)
/-- arguments -/
theorem ea_nil : EA R tNil σ H [] := fun H1 _ _ q => q [] H1 (R.refl H1) rfl
theorem ea_cons {tr : TA} {ds : List (Ds R)} (h : ED R ta σ H d) (hr : EA R tr σ H ds) : EA R (tCons ta tr) σ H (d :: ds) := fun H1 e _ q =>
  h H1 e _ fun x H2 e2 p => hr H2 (R.trans e e2) _ fun vs H3 e3 p3 => q (x :: vs) H3 (R.trans e2 e3) ⟨x, vs, rfl, d.mono e3 p, p3⟩
theorem ea_one (h : ED R ta σ H d) : EA R (tCons ta tNil) σ H [d] := ea_cons h ea_nil
theorem da_tks : ∀ {ks : List NestedKey} {vs : List V}, DA (ks.map (dK R K)) H vs → Tks K H ks vs
  | [], vs, h => tks_nil.mpr h
  | k :: ks, vs, ⟨v, r, h1, h2, h3⟩ => tks_cons.mpr ⟨v, r, h1, h2, da_tks h3⟩
theorem sz5 {n : Nat} (h : n ≤ 100000) : n ≤ sizeLine := sz_of h
/-- (e, ..) -/
theorem ed_tup {ta : TA} (ks : List NestedKey) (h : EA R ta σ H (ks.map (dK R K))) (hl : ks.length ≤ 100000) : ED R (tTup ta) σ H (dK R K (.tup ks)) := fun H1 e Q q =>
  h H1 e _ fun vs H2 e2 p => by
    have ht := da_tks p
    refine ⟨by rw [ht.len]; exact sz5 hl, fun p hp => q _ _ (R.trans e2 (R.ex (Ex.new hp))) (mT (.inl upd_same) (ht.ex (Ex.new hp)))⟩
theorem el_lst {ta : TA} (ks : List NestedKey) (h : EA R ta σ H (ks.map (dK R K))) (hl : ks.length ≤ 100000) : ELk R K (tLst ta) σ H ks := fun H1 e Q q =>
  h H1 e _ fun vs H2 e2 p => by
    have ht := da_tks p
    refine ⟨by rw [ht.len]; exact sz5 hl, fun p hp => q p vs _ (R.fresh e2 hp) (R.trans e2 (R.ex (Ex.new hp))) upd_same (ht.ex (Ex.new hp))⟩
/-- any new list is a list -/
theorem ED.of_el (h : ELk R K te σ H ks) (ok : ∀ p, H p = none → R.ok p) : ED R te σ H (dL R K ks) := fun H1 e Q q =>
  h H1 e Q fun p xs H2 hp e2 hx ht => q (.ref p) H2 e2 ⟨p, xs, rfl, ok p (R.fresh e hp), .inl (.inl hx), ht⟩
/-- tuple(x) of a list -/
theorem ed_tupOf (r : List V → Hp → VK → Prop) (hr : ∀ xs H Q, (∃ p ys, xs = [.ref p] ∧ ((SqL K H p ys ∧ ∀ l, H l = none → Q (.ref l) (upd H l (.tup ys))) ∨ (SqT K H p ys ∧ Q (.ref p) H))) → r xs H Q)
    (h : ELk R K te σ H ks) : ED R (tCB r (tCons te tNil)) σ H (dK R K (.tup ks)) := fun H1 e Q q =>
  h H1 e _ fun p xs H2 _ e2 hx ht => hr _ _ _ ⟨p, xs, rfl, .inl ⟨.inl (.inl hx), fun l hl => q _ _ (R.trans e2 (R.ex (Ex.new hl))) (mT (.inl upd_same) (ht.ex (Ex.new hl)))⟩⟩
theorem ed_tupOfS (r : List V → Hp → VK → Prop) (hr : ∀ xs H Q, (∃ p ys, xs = [.ref p] ∧ ((SqL K H p ys ∧ ∀ l, H l = none → Q (.ref l) (upd H l (.tup ys))) ∨ (SqT K H p ys ∧ Q (.ref p) H))) → r xs H Q)
    (h : ED R te σ H (dS R K ks)) : ED R (tCB r (tCons te tNil)) σ H (dK R K (.tup ks)) := fun H1 e Q q =>
  h H1 e _ fun v H2 e2 p => by
    rcases p with ⟨a, xs, rfl, ok, hs, ht⟩ | px
    · exact hr _ _ _ ⟨a, xs, rfl, .inl ⟨hs, fun l hl => q _ _ (R.trans e2 (R.ex (Ex.new hl))) (mT (.inl upd_same) (ht.ex (Ex.new hl)))⟩⟩
    · obtain ⟨a, xs, rfl, hs, ht⟩ := pT (R := R) px
      exact hr _ _ _ ⟨a, xs, rfl, .inr ⟨hs.sq, q _ H2 e2 px⟩⟩
/-- list(x) -/
theorem el_listOf (r : List V → Hp → VK → Prop) (hr : ∀ xs H Q, (∃ p ys, xs = [.ref p] ∧ (SqL K H p ys ∨ SqT K H p ys) ∧ ∀ l, H l = none → Q (.ref l) (upd H l (.lst ys))) → r xs H Q)
    (h : ED R te σ H (dS R K ks)) : ELk R K (tCB r (tCons te tNil)) σ H ks := fun H1 e Q q =>
  h H1 e _ fun v H2 e2 p => by
    rcases p with ⟨a, xs, rfl, ok, hs, ht⟩ | px
    · exact hr _ _ _ ⟨a, xs, rfl, .inl hs, fun l hl => q l xs _ (R.fresh e2 hl) (R.trans e2 (R.ex (Ex.new hl))) upd_same (ht.ex (Ex.new hl))⟩
    · obtain ⟨a, xs, rfl, hs, ht⟩ := pT (R := R) px
      exact hr _ _ _ ⟨a, xs, rfl, .inr hs.sq, fun l hl => q l xs _ (R.fresh e2 hl) (R.trans e2 (R.ex (Ex.new hl))) upd_same (ht.ex (Ex.new hl))⟩
theorem ed_len (r : List V → Hp → VK → Prop) (hr : ∀ xs H Q, (∃ p ys, xs = [.ref p] ∧ (SqL K H p ys ∨ SqT K H p ys) ∧ Q (.int ys.length) H) → r xs H Q)
    (h : ED R te σ H (dS R K ks)) : ED R (tCB r (tCons te tNil)) σ H (dK R K (.num ks.length)) := fun H1 e Q q =>
  h H1 e _ fun v H2 e2 p => by
    rcases p with ⟨a, xs, rfl, ok, hs, ht⟩ | px
    · exact hr _ _ _ ⟨a, xs, rfl, .inl hs, q _ H2 e2 (by rw [ht.len]; exact mN)⟩
    · obtain ⟨a, xs, rfl, hs, ht⟩ := pT (R := R) px
      exact hr _ _ _ ⟨a, xs, rfl, .inr hs.sq, q _ H2 e2 (by rw [ht.len]; exact mN)⟩
theorem ed_lenX (r : List V → Hp → VK → Prop) (hr : ∀ xs H Q, (∃ z, xs = [.str z] ∧ z.length ≤ sizeLine ∧ Q (.int z.length) H) → r xs H Q) {w : Str} (hw : w.length ≤ 100000)
    (h : ED R te σ H (dK R K (.text w))) : ED R (tCB r (tCons te tNil)) σ H (dK R K (.num w.length)) := fun H1 e Q q =>
  h H1 e _ fun v H2 e2 p => hr _ _ _ ⟨w, by rw [pX p], sz_of hw, q _ H2 e2 mN⟩
/-- int(x) -/
theorem ed_int1 (r : List V → Hp → VK → Prop) (hr : ∀ xs H Q, ((∃ i, xs = [.int i] ∧ Q (.int i) H) ∨ ∃ k, xs = [.bl k] ∧ Q (.int (if k then 1 else 0)) H) → r xs H Q) {i : Int}
    (h : ED R te σ H (dK R K (.num i))) : ED R (tCB r (tCons te tNil)) σ H (dK R K (.num i)) := fun H1 e Q q =>
  h H1 e _ fun v H2 e2 p => hr _ _ _ (.inl ⟨i, by rw [pN p], q _ H2 e2 mN⟩)
theorem ed_intB (r : List V → Hp → VK → Prop) (hr : ∀ xs H Q, ((∃ i, xs = [.int i] ∧ Q (.int i) H) ∨ ∃ k, xs = [.bl k] ∧ Q (.int (if k then 1 else 0)) H) → r xs H Q) {b : Bool}
    (h : ED R te σ H (dV R (.bl b))) : ED R (tCB r (tCons te tNil)) σ H (dK R K (.num (if b then 1 else 0))) := fun H1 e Q q =>
  h H1 e _ fun v H2 e2 p => hr _ _ _ (.inr ⟨b, by rw [show v = .bl b from p], q _ H2 e2 mN⟩)
/-- a + b of tuples, a not empty -/
theorem ed_catT {ks js : List NestedKey} (h0 : ks ≠ []) (hl : ks.length + js.length ≤ 100000) (ha : ED R ta σ H (dK R K (.tup ks))) (hb : ED R tb σ H (dK R K (.tup js))) : ED R (tOp (rCatT K) ta tb) σ H (dK R K (.tup (ks ++ js))) :=
  ed_op ha hb fun x y H1 _ px py Q q => by
    obtain ⟨a, xs, rfl, hx, tx⟩ := pT (R := R) px
    obtain ⟨b, ys, rfl, hy, ty⟩ := pT (R := R) py
    refine ⟨a, b, xs, ys, rfl, rfl, hx.sq, hy.sq, ?_, ?_, ?_, ?_⟩
    · rintro rfl
      exact h0 (List.length_eq_zero_iff.mp tx.len.symm)
    · rw [tx.len, ty.len]
      exact sz5 hl
    · rintro rfl
      have : js = [] := List.length_eq_zero_iff.mp ty.len.symm
      subst this
      rw [List.append_nil] at q
      exact q _ H1 (R.refl H1) px
    · intro _ p hp
      exact q _ _ (R.ex (Ex.new hp)) (mT (.inl upd_same) ((tx.app ty).ex (Ex.new hp)))
theorem eo_none : EO R tNoPart σ H none := fun H1 _ _ q => q H1 (R.refl H1)
theorem eo_some {i : Int} (h : ED R te σ H (dK R K (.num i))) : EO R (tPart te) σ H (some i) := fun H1 e _ q => h H1 e _ fun v H2 e2 p => ⟨i, pN p, q H2 e2⟩
/-- t[:n] of a longer tuple -/
theorem cut_to (xs : List V) (n : Nat) : cutV xs none (some (n : Int)) = xs.take n := by
  unfold cutV
  rw [HT.sIx_none, HT.sIx_nat, List.drop_zero, Nat.sub_zero]
  by_cases h : n ≤ xs.length
  · rw [Nat.min_eq_left h]
  · rw [Nat.min_eq_right (by omega), List.take_of_length_le (Nat.le_refl _), List.take_of_length_le (by omega)]
theorem ed_slT {n : Nat} (hn : n < ks.length) (ha : ED R ta σ H (dK R K (.tup ks))) (hb : ED R tb σ H (dK R K (.num (n : Int)))) : ED R (tSl (rSlT K) ta tNoPart (tPart tb)) σ H (dK R K (.tup (ks.take n))) := fun H1 e Q q =>
  ha H1 e _ fun x H2 e2 px => (eo_none (R := R) (H := H2)) H2 (R.refl H2) _ fun H3 e3 => (eo_some hb) H3 (R.trans (R.trans e e2) e3) _ fun H4 e4 => by
    have px2 := (dK R K _).mono (R.trans e3 e4) px
    obtain ⟨a, xs, rfl, hx, tx⟩ := pT (R := R) px2
    refine ⟨a, xs, rfl, hx.sq, ?_, fun p hp => q _ _ (R.trans (R.trans e2 (R.trans e3 e4)) (R.ex (Ex.new hp))) (mT (.inl upd_same) (?_))⟩
    · rw [HT.sIx_none, HT.sIx_nat]
      rintro ⟨_, h2⟩
      have := tx.len
      omega
    · rw [cut_to]
      exact (tx.take n).ex (Ex.new hp)
/-- a call of a def: from the properties of its arguments -/
theorem ed_call {sp : Sp} {E : XK} {ta : TA} {ds : List (Ds R)} (h : EA R ta σ H ds) (hs : ∀ vs H1, R.r H H1 → DA ds H1 vs → ∀ Q : VK, (∀ v H2, R.r H1 H2 → d.p H2 v → Q v H2) → sp vs H1 Q E) : ED R (tCall sp [] E ta) σ H d := fun H1 e Q q =>
  h H1 e _ fun vs H2 e2 p => by
    rw [List.append_nil]
    exact hs vs H2 (R.trans e e2) p Q fun v H3 e3 p3 => q v H3 (R.trans e2 e3) p3
theorem el_call {sp : Sp} {E : XK} {ta : TA} {ds : List (Ds R)} {P : Hp → List V → Prop} (h : EA R ta σ H ds) (hs : ∀ vs H1, R.r H H1 → DA ds H1 vs → ∀ Q : VK, (∀ p xs H2, H1 p = none → R.r H1 H2 → H2 p = some (.lst xs) → P H2 xs → Q (.ref p) H2) → sp vs H1 Q E) :
    EL R (tCall sp [] E ta) σ H P := fun H1 e Q q => h H1 e _ fun vs H2 e2 p => by
    rw [List.append_nil]
    exact hs vs H2 (R.trans e e2) p Q fun p xs H3 hp e3 hx p3 => q p xs H3 (R.fresh e2 hp) (R.trans e2 e3) hx p3

/-! ### the promises' shapes -/
/-- keys in, a key out -/
def spK (K : PySem.W.Frag) (f : List NestedKey → NestedKey → Prop) : Sp := fun vs H Q _ => ∃ ks k, f ks k ∧ Tks K H ks vs ∧ ∀ v H', Ex H H' → Tk K H' k v → Q v H'
/-- keys in, a new list of keys out -/
def spKL (K : PySem.W.Frag) (f : List NestedKey → List NestedKey → Prop) : Sp := fun vs H Q _ => ∃ ks js, f ks js ∧ Tks K H ks vs ∧ ∀ p xs H', H p = none → Ex H H' → H' p = some (.lst xs) → Tks K H' js xs → Q (.ref p) H'
theorem ed_callK {f : List NestedKey → NestedKey → Prop} {E : XK} {ta : TA} (ks : List NestedKey) (hf : f ks k) (h : EA R ta σ H (ks.map (dK R K))) : ED R (tCall (spK K f) [] E ta) σ H (dK R K k) :=
  ed_call h fun vs H1 _ p Q q => ⟨ks, k, hf, da_tks p, fun v H2 e2 t => q v H2 (R.ex e2) t⟩
theorem el_callK {f : List NestedKey → List NestedKey → Prop} {E : XK} {ta : TA} {js : List NestedKey} (ks : List NestedKey) (hf : f ks js) (h : EA R ta σ H (ks.map (dK R K))) : ELk R K (tCall (spKL K f) [] E ta) σ H js :=
  el_call h fun vs H1 _ p Q q => ⟨ks, js, hf, da_tks p, fun p xs H2 hp e2 hx t => q p xs H2 hp (R.ex e2) hx t⟩

/-! ### statements -/
variable {D : Ends} {tu tw tz : TS} {g : TG}
theorem a_set {i : Nat} (h : ED R te σ H d) (k : ∀ v H1, R.r H H1 → d.p H1 v → tz D (σ.set i (some v)) H1) : tSeq (tAsg te (gName i)) tz D σ H := h H (R.refl H) _ fun v H1 e p => k v H1 e p
theorem a_setL {i : Nat} {P : Hp → List V → Prop} (h : EL R te σ H P) (k : ∀ p xs H1, H p = none → R.r H H1 → H1 p = some (.lst xs) → P H1 xs → tz D (σ.set i (some (.ref p))) H1) : tSeq (tAsg te (gName i)) tz D σ H :=
  h H (R.refl H) _ fun p xs H1 hp e hx q => k p xs H1 hp e hx q
theorem a_last {i : Nat} (h : ED R te σ H d) (k : ∀ v H1, R.r H H1 → d.p H1 v → D.nx (σ.set i (some v)) H1) : tAsg te (gName i) D σ H := h H (R.refl H) _ fun v H1 e p => k v H1 e p
theorem a_lastL {i : Nat} {P : Hp → List V → Prop} (h : EL R te σ H P) (k : ∀ p xs H1, H p = none → R.r H H1 → H1 p = some (.lst xs) → P H1 xs → D.nx (σ.set i (some (.ref p))) H1) : tAsg te (gName i) D σ H :=
  h H (R.refl H) _ fun p xs H1 hp e hx q => k p xs H1 hp e hx q
theorem a_ret (h : ED R te σ H d) (k : ∀ v H1, R.r H H1 → d.p H1 v → D.rt v H1) : tRet te D σ H := h H (R.refl H) _ fun v H1 e p => k v H1 e p
theorem a_retL {P : Hp → List V → Prop} (h : EL R te σ H P) (k : ∀ p xs H1, H p = none → R.r H H1 → H1 p = some (.lst xs) → P H1 xs → D.rt (.ref p) H1) : tRet te D σ H := h H (R.refl H) _ fun p xs H1 hp e hx q => k p xs H1 hp e hx q
theorem a_if {b : Bool} (h : ET R t σ H b) (h1 : b = true → ∀ H1, R.r H H1 → tu D σ H1) (h2 : b = false → ∀ H1, R.r H H1 → tw D σ H1) : tIfS t tu tw D σ H := h H (R.refl H) _ fun H1 e => by
  cases b with
  | true => exact h1 rfl H1 e
  | false => exact h2 rfl H1 e
theorem a_ifS {b : Bool} (h : ET R t σ H b) (h1 : b = true → ∀ H1, R.r H H1 → tu { D with nx := tz D } σ H1) (h2 : b = false → ∀ H1, R.r H H1 → tw { D with nx := tz D } σ H1) : tSeq (tIfS t tu tw) tz D σ H := a_if (D := { D with nx := tz D }) h h1 h2
/-- xs.append(e), the list at l known at the time -/
theorem a_app {l : Addr} {xs : List V} (hl : H l = some (.lst xs)) (okl : R.ok l) (ha : ED R ta σ H (dV R (.ref l))) (h : ED R te σ H d) (hz : xs.length < 100000) (k : ∀ v H1, R.r H H1 → d.p H1 v → H1 l = some (.lst xs) → D.nx σ (upd H1 l (.lst (xs ++ [v])))) :
    tDrop (tBM K "list" rAppend ta (tCons te tNil)) D σ H := ha H (R.refl H) _ fun v H1 e1 p => by
  have p : v = .ref l := p
  subst p
  exact ⟨.inl ⟨rfl, xs, .inl (.inl (R.keep e1 okl hl))⟩, h H1 e1 _ fun v H2 e2 p2 => ⟨l, xs, v, rfl, rfl, R.keep (R.trans e1 e2) okl hl, sz_lt hz, k v H2 (R.trans e1 e2) p2 (R.keep (R.trans e1 e2) okl hl)⟩⟩
end
end Mk
namespace Mk
open PySem L2 Evl
section
variable {R : Tr} {K : PySem.W.Frag} {σ : L2.St} {H H' : Hp} {ta tb te tx : TE} {t : L2.TT} {d : Ds R} {v : V} {k : NestedKey} {ks : List NestedKey} {D : Ends} {tz : TS} {i j : Int}
theorem ed_add (ha : ED R ta σ H (dK R K (.num i))) (hb : ED R tb σ H (dK R K (.num j))) : ED R (tOp (rI0 fun i j => .int (i + j)) ta tb) σ H (dK R K (.num (i + j))) := ed_I0 (tkn _) ha hb
theorem ed_sub (ha : ED R ta σ H (dK R K (.num i))) (hb : ED R tb σ H (dK R K (.num j))) : ED R (tOp (rI0 fun i j => .int (i - j)) ta tb) σ H (dK R K (.num (i - j))) := ed_I0 (tkn _) ha hb
theorem ed_mod (hj : 0 < j) (ha : ED R ta σ H (dK R K (.num i))) (hb : ED R tb σ H (dK R K (.num j))) : ED R (tOp (rI (fun _ j => 0 < j) fun i j => .int (i % j)) ta tb) σ H (dK R K (.num (i % j))) := ed_I (C := fun _ j => 0 < j) hj (tkn _) ha hb
theorem ed_mul (hc : CMul i j) (ha : ED R ta σ H (dK R K (.num i))) (hb : ED R tb σ H (dK R K (.num j))) : ED R (tOp (rI CMul fun i j => .int (i * j)) ta tb) σ H (dK R K (.num (i * j))) := ed_I hc (tkn _) ha hb
theorem ed_fdiv (hc : CDiv i j) (ha : ED R ta σ H (dK R K (.num i))) (hb : ED R tb σ H (dK R K (.num j))) : ED R (tOp (rI CDiv fun i j => .int (i / j)) ta tb) σ H (dK R K (.num (i / j))) := ed_I hc (tkn _) ha hb
theorem ed_neg (ha : ED R ta σ H (dK R K (.num i))) : ED R (tUn (rU fun i => .int (-i)) ta) σ H (dK R K (.num (-i))) := fun H1 e Q q => ha H1 e _ fun v H2 e2 p => ⟨i, pN p, q _ H2 e2 mN⟩
theorem ed_if {b : Bool} (h : ET R t σ H b) (h1 : b = true → ED R ta σ H d) (h2 : b = false → ED R tb σ H d) : ED R (tIf t ta tb) σ H d := fun H1 e Q q => h H1 e _ fun H2 e2 => by
  cases b with
  | true => exact h1 rfl H2 (R.trans e e2) Q fun v H3 e3 p => q v H3 (R.trans e2 e3) p
  | false => exact h2 rfl H2 (R.trans e e2) Q fun v H3 e3 p => q v H3 (R.trans e2 e3) p
/-- xs[j] = e -/
theorem a_setIx {l : Addr} {xs : List V} {n : Nat} (hl : H l = some (.lst xs)) (okl : R.ok l) (h : ED R te σ H d) (ho : ED R ta σ H (dV R (.ref l))) (hi : ED R tb σ H (dK R K (.num (n : Int)))) (hn : n < xs.length)
    (kk : ∀ v H1, R.r H H1 → d.p H1 v → H1 l = some (.lst xs) → tz D σ (upd H1 l (.lst (xs.set n v)))) : tSeq (tAsg te (gSub ta tb rSetL)) tz D σ H :=
  h H (R.refl H) _ fun v H1 e1 p => ho H1 e1 _ fun o H2 e2 po => by
    have po : o = .ref l := po
    subst po
    refine hi H2 (R.trans e1 e2) _ fun y H3 e3 py => ?_
    have e := R.trans (R.trans e1 e2) e3
    have hl3 := R.keep e okl hl
    rw [pN py]
    exact ⟨l, xs, (n : Int), n, rfl, rfl, hl3, ixN_nat hn, kk v H3 e (d.mono (R.trans e2 e3) p) hl3⟩
/-- the list at l, as it stands -/
theorem ed_lst {l : Addr} {xs : List V} {n : Nat} (hs : σ[n]? = some (some (.ref l))) (ok : R.ok l) (hl : H l = some (.lst xs)) (ht : Tks K H ks xs) : ED R (tVar n) σ H (dL R K ks) := ed_v hs ⟨l, xs, rfl, ok, .inl (.inl hl), ht⟩
theorem ed_num {n : Nat} {i : Int} (hs : σ[n]? = some (some (.int i))) : ED R (tVar n) σ H (dK R K (.num i)) := ed_v hs mN
theorem ed_txt {n : Nat} {i : Str} (hs : σ[n]? = some (some (.str i))) : ED R (tVar n) σ H (dK R K (.text i)) := ed_v hs mX
theorem ed_key {n : Nat} (hs : σ[n]? = some (some v)) (h : Tk K H k v) : ED R (tVar n) σ H (dK R K k) := ed_v hs h
theorem ed_ref {n : Nat} {l : Addr} (hs : σ[n]? = some (some (.ref l))) : ED R (tVar n) σ H (dV R (.ref l)) := ed_v hs rfl
end
end Mk
set_option Elab.async false
set_option linter.all false
set_option maxRecDepth 100000
set_option maxHeartbeats 2000000
/-! Loops and comprehensions over what gives keys. -/
namespace Mk
open PySem L2 Evl

/-- the list at l may change -/
def tE (l : Addr) : Tr where
  r H H' := (∀ a o, a ≠ l → H a = some o → H' a = some o) ∧ TSt H H' ∧ ∀ a, H' a = none → H a = none
  refl H := ⟨fun _ _ _ h => h, TSt.refl H, fun _ h => h⟩
  trans a b := ⟨fun c o n h => b.1 c o n (a.1 c o n h), a.2.1.trans b.2.1, fun c h => a.2.2 c (b.2.2 c h)⟩
  ts a := a.2.1
  ex e := ⟨fun a o _ h => e a o h, TSt.ex e, fun a h => fresh_back e h⟩
  ok a := a ≠ l
  keep e n h := e.1 _ _ n h
  fresh e h := e.2.2 _ h
theorem tE_upd {l : Addr} {H H' : Hp} {xs ys : List V} (e : (tE l).r H H') (h : H' l = some (.lst xs)) : (tE l).r H (upd H' l (.lst ys)) :=
  ⟨fun a o n q => by rw [upd_ne n]; exact e.1 a o n q, e.2.1.lst h, fun a q => by
    by_cases z : a = l
    · subst z; rw [upd_same] at q; cases q
    · rw [upd_ne z] at q; exact e.2.2 a q⟩
/-- seen from ahead of the list's making -/
theorem ex_of_tE {l : Addr} {H0 H H' : Hp} (hl : H0 l = none) (e : Ex H0 H) (r : (tE l).r H H') : Ex H0 H' := fun a o h => r.1 a o (ne_of_none h hl) (e a o h)

/-- what a loop goes over: n turns, the i-th gives something of ds i -/
def EI (Re R : Tr) (wi : TI) (σ : L2.St) (H : Hp) (n : Nat) (ds : Nat → Ds R) : Prop := ∀ H1, Re.r H H1 → ∀ Q : It → Hp → Prop,
  (∀ J H2 G, Re.r H1 H2 → G H2 → (∀ H H', R.r H H' → G H → G H') → Walk J n G (fun i H x H' => Ex H H' ∧ (ds i).p H' x) → Q J H2) → wi σ H1 Q
section
variable {Re R : Tr} {K : PySem.W.Frag} {σ : L2.St} {H H' : Hp} {te : TE} {ta : TA} {ks js : List NestedKey}
theorem ei_rng1 {n : Int} (h : EA Re ta σ H [dK Re K (.num n)]) (hn : 0 ≤ n ∧ n ≤ 100000) : EI Re R (iRng1 ta) σ H n.toNat (fun i => dK R K (.num (i : Nat))) := fun H1 e Q q =>
  h H1 e _ fun vs H2 e2 ⟨v, r, e3, p, e4⟩ => by
    have e4 : r = [] := e4
    subst e3 e4
    have p := pN p
    subst p
    refine ⟨n, rfl, by omega, by omega, q _ H2 (fun _ => True) e2 trivial (fun _ _ _ _ => trivial) (walk_range.mono (fun _ _ => trivial) fun i H x H' _ _ y => ?_)⟩
    obtain ⟨rfl, rfl⟩ := y
    refine ⟨Ex.refl _, ?_⟩
    show (dK R K (.num (i : Nat))).p H' (.int (0 + (i : Nat)))
    rw [Int.zero_add]
    exact mN
theorem ei_rng2 {lo n : Int} (h : EA Re ta σ H [dK Re K (.num lo), dK Re K (.num n)]) (h0 : 0 ≤ lo ∧ lo ≤ 100000) (hn : 0 ≤ n ∧ n ≤ 100000) : EI Re R (iRng2 ta) σ H (n - lo).toNat (fun i => dK R K (.num (lo + (i : Nat)))) := fun H1 e Q q =>
  h H1 e _ fun vs H2 e2 ⟨v, r, e3, p, w, r2, e4, p2, e5⟩ => by
    have e5 : r2 = [] := e5
    subst e5 e4 e3
    have p := pN p
    have p2 := pN p2
    subst p p2
    refine ⟨lo, n, rfl, ⟨by omega, by omega, by omega, by omega⟩, q _ H2 (fun _ => True) e2 trivial (fun _ _ _ _ => trivial) (walk_range.mono (fun _ _ => trivial) fun i H x H' _ _ y => ?_)⟩
    obtain ⟨rfl, rfl⟩ := y
    exact ⟨Ex.refl _, mN⟩
theorem get_lt {α : Type} {xs : List α} {i : Nat} {d : α} (h : i < xs.length) : xs[i]? = some (xs.getD i d) := by
  rw [List.getD_eq_getElem?_getD, List.getElem?_eq_getElem h]
  rfl
theorem ei_tup (h : ED Re te σ H (dK Re K (.tup ks))) : EI Re R (iTup K te) σ H ks.length (fun i => dK R K (ks.getD i .none)) := fun H1 e Q q =>
  h H1 e _ fun v H2 e2 p => by
    obtain ⟨a, xs, rfl, hx, tx⟩ := pT (R := Re) p
    refine ⟨a, rfl, ⟨xs, hx.sq⟩, q _ H2 (fun H => TT K H a xs ∧ Tks K H ks xs) e2 ⟨hx, tx⟩ (fun _ _ e g => ⟨g.1.ts (R.ts e), g.2.to (R.ts e)⟩) ?_⟩
    rw [← tx.len]
    refine walk_tup.mono (fun H g => g.1.sq) fun i H x H' hi g y => ?_
    obtain ⟨rfl, hy⟩ := y
    obtain ⟨k, hk, t⟩ := g.2.of_at hy
    rw [tx.len] at hi
    rw [get_lt (d := .none) hi] at hk
    cases hk
    exact ⟨Ex.refl _, t⟩
theorem ei_list (h : ED Re te σ H (dL Re K ks)) (oks : ∀ a, Re.ok a → R.ok a) : EI Re R (iList K te) σ H ks.length (fun i => dK R K (ks.getD i .none)) := fun H1 e Q q =>
  h H1 e _ fun v H2 e2 p => by
    obtain ⟨a, xs, rfl, ok, hx, tx⟩ := p
    refine ⟨a, rfl, ⟨xs, hx⟩, q _ H2 (fun H => SqL K H a xs ∧ Tks K H ks xs) e2 ⟨hx, tx⟩ (fun _ _ e g => ⟨sqL_keep e (oks a ok) g.1, g.2.to (R.ts e)⟩) ?_⟩
    rw [← tx.len]
    refine walk_list.mono (fun H g => g.1) fun i H x H' hi g y => ?_
    obtain ⟨rfl, hy⟩ := y
    obtain ⟨k, hk, t⟩ := g.2.of_at hy
    rw [tx.len] at hi
    rw [get_lt (d := .none) hi] at hk
    cases hk
    exact ⟨Ex.refl _, t⟩
/-- a list that stands in a slot -/
theorem ei_listV {n : Nat} {a : Addr} {xs : List V} (hs : σ[n]? = some (some (.ref a))) (hx : SqL K H a xs) (ht : Tks K H ks xs) (ok : R.ok a) (ok2 : Re.ok a) : EI Re R (iList K (tVar n)) σ H ks.length (fun i => dK R K (ks.getD i .none)) := fun H1 e Q q =>
  ⟨.ref a, hs, a, rfl, ⟨xs, sqL_keep e ok2 hx⟩, by
    refine q _ H1 (fun H => SqL K H a xs ∧ Tks K H ks xs) (Re.refl H1) ⟨sqL_keep e ok2 hx, ht.to (Re.ts e)⟩ (fun _ _ e g => ⟨sqL_keep e ok g.1, g.2.to (R.ts e)⟩) ?_
    rw [← ht.len]
    refine walk_list.mono (fun H g => g.1) fun i H x H' hi g y => ?_
    obtain ⟨rfl, hy⟩ := y
    obtain ⟨k, hk, t⟩ := g.2.of_at hy
    rw [ht.len] at hi
    rw [get_lt (d := .none) hi] at hk
    cases hk
    exact ⟨Ex.refl _, t⟩⟩
/-- a new list whose values are told one by one -/
theorem ei_listP {n : Nat} {ds : Nat → Ds R} (h : EL Re te σ H fun H2 xs => xs.length = n ∧ ∀ i x, xs[i]? = some x → (ds i).p H2 x) (ok : ∀ p, H p = none → R.ok p) : EI Re R (iList K te) σ H n ds := fun H1 e Q q =>
  h H1 e _ fun a xs H2 hp e2 hx ⟨hn, tx⟩ => by
    subst hn
    have oka := ok a (Re.fresh e hp)
    refine ⟨a, rfl, ⟨xs, .inl (.inl hx)⟩, q _ H2 (fun H => SqL K H a xs ∧ ∀ i x, xs[i]? = some x → (ds i).p H x) e2 ⟨.inl (.inl hx), tx⟩ (fun _ _ e g => ⟨sqL_keep e oka g.1, fun i x hi => (ds i).mono e (g.2 i x hi)⟩) ?_⟩
    refine walk_list.mono (fun H g => g.1) fun i H x H' hi g y => ?_
    obtain ⟨rfl, hy⟩ := y
    exact ⟨Ex.refl _, g.2 i x hy⟩
theorem Tks.all_at {xs : List V} (t : Tks K H ks xs) : xs.length = ks.length ∧ ∀ i x, xs[i]? = some x → (dK R K (ks.getD i .none)).p H x := by
  refine ⟨t.len, fun i x hx => ?_⟩
  obtain ⟨k, hk, t2⟩ := t.of_at hx
  have hi : i < ks.length := (List.getElem?_eq_some_iff.mp hk).1
  rw [get_lt (d := .none) hi] at hk
  cases hk
  exact t2
theorem EL.imp {P P' : Hp → List V → Prop} (h : EL Re te σ H P) (i : ∀ H2 xs, P H2 xs → P' H2 xs) : EL Re te σ H P' := fun H1 e Q q => h H1 e Q fun p xs H2 hp e2 hx t => q p xs H2 hp e2 hx (i H2 xs t)
theorem ei_listN (h : ELk Re K te σ H ks) (ok : ∀ p, H p = none → R.ok p) : EI Re R (iList K te) σ H ks.length (fun i => dK R K (ks.getD i .none)) := ei_listP (h.imp fun _ _ t => t.all_at) ok
theorem tk2 {x y : V} {k j : NestedKey} {a : Addr} (h1 : Tk K H k x) (h2 : Tk K H j y) (hn : H a = none) : (dK R K (.tup [k, j])).p (upd H a (.tup [x, y])) (.ref a) :=
  mT (.inl upd_same) ((tks_cons.mpr ⟨x, [y], rfl, h1, Tks.one h2⟩ : Tks K H [k, j] [x, y]).ex (Ex.new hn))
theorem ei_enumT (h : EA Re ta σ H [dK Re K (.tup ks)]) : EI Re R (iEnumT K ta) σ H ks.length (fun i => dK R K (.tup [.num (i : Nat), ks.getD i .none])) := fun H1 e Q q =>
  h H1 e _ fun vs H2 e2 ⟨v, r, e3, p, e4⟩ => by
    have e4 : r = [] := e4
    subst e3 e4
    obtain ⟨a, xs, rfl, hx, tx⟩ := pT (R := Re) p
    refine ⟨a, xs, rfl, hx.sq, q _ H2 (fun H => TT K H a xs ∧ Tks K H ks xs) e2 ⟨hx, tx⟩ (fun _ _ e g => ⟨g.1.ts (R.ts e), g.2.to (R.ts e)⟩) ?_⟩
    rw [← tx.len]
    refine walk_enumT.mono (fun H g => g.1.sq) fun i H x H' hi g y => ?_
    obtain ⟨T, u, w, rfl, nT, rfl, e5, e6⟩ := y
    cases e5
    obtain ⟨k, hk, t⟩ := g.2.of_at e6
    rw [tx.len] at hi
    rw [get_lt (d := .none) hi] at hk
    cases hk
    exact ⟨Ex.new nT, tk2 (tkn _) t nT⟩
theorem walk_zipT2 {a b : Addr} {xs ys : List V} {n : Nat} (hn : n = min xs.length ys.length) : Walk (RZ.ItzT K a b) n (fun H => SqT K H a xs ∧ SqT K H b ys) (YPair (fun i => xs[i]?) (fun i => ys[i]?)) := by
  subst hn
  refine ⟨fun i _ hi q => ?_, fun _ q => ⟨xs, ys, q.1, q.2, by omega⟩, fun i H v H' _ q y => ?_⟩
  · have h1 : i < xs.length := Nat.lt_of_lt_of_le hi (Nat.min_le_left _ _)
    have h2 : i < ys.length := Nat.lt_of_lt_of_le hi (Nat.min_le_right _ _)
    exact ⟨xs, ys, _, _, q.1, q.2, List.getElem?_eq_getElem h1, List.getElem?_eq_getElem h2⟩
  · obtain ⟨T, x, z, h1, h2, h3, h4, h5⟩ := y
    exact ⟨T, x, z, h1, h2, h3, h4 xs q.1, h5 ys q.2⟩
theorem ei_zipT (h : EA Re ta σ H [dK Re K (.tup ks), dK Re K (.tup js)]) (hl : js.length = ks.length) : EI Re R (RZ.iZipA K ta) σ H ks.length (fun i => dK R K (.tup [ks.getD i .none, js.getD i .none])) := fun H1 e Q q =>
  h H1 e _ fun vs H2 e2 ⟨v, r, e3, p, w, r2, e4, p2, e5⟩ => by
    have e5 : r2 = [] := e5
    subst e5 e4 e3
    obtain ⟨a, xs, rfl, hx, tx⟩ := pT (R := Re) p
    obtain ⟨b, ys, rfl, hy, ty⟩ := pT (R := Re) p2
    refine ⟨a, b, xs, ys, rfl, .inr ⟨hx.sq, hy.sq, q _ H2 (fun H => (TT K H a xs ∧ Tks K H ks xs) ∧ (TT K H b ys ∧ Tks K H js ys)) e2 ⟨⟨hx, tx⟩, ⟨hy, ty⟩⟩
      (fun _ _ e g => ⟨⟨g.1.1.ts (R.ts e), g.1.2.to (R.ts e)⟩, ⟨g.2.1.ts (R.ts e), g.2.2.to (R.ts e)⟩⟩) ?_⟩⟩
    refine (walk_zipT2 (xs := xs) (ys := ys) (by rw [tx.len, ty.len, hl, Nat.min_self])).mono (fun H g => ⟨g.1.1.sq, g.2.1.sq⟩) fun i H x H' hi g y => ?_
    obtain ⟨T, u, w, rfl, nT, rfl, e5, e6⟩ := y
    obtain ⟨k, hk, t⟩ := g.1.2.of_at e5
    obtain ⟨j, hj, t2⟩ := g.2.2.of_at e6
    rw [get_lt (d := .none) hi] at hk
    cases hk
    rw [get_lt (d := .none) (by omega)] at hj
    cases hj
    exact ⟨Ex.new nT, tk2 t t2 nT⟩
theorem ei_str {w : Str} (h : ED Re te σ H (dK Re K (.text w))) : EI Re R (iStr te) σ H w.cps.size (fun i => dK R K (.text ⟨#[w.cps.toList.getD i 0]⟩)) := fun H1 e Q q =>
  h H1 e _ fun v H2 e2 p => by
    have p := pX p
    subst p
    refine ⟨w, rfl, q _ H2 (fun _ => True) e2 trivial (fun _ _ _ _ => trivial) (walk_str.mono (fun _ _ => trivial) fun i H x H' hi _ y => ?_)⟩
    obtain ⟨rfl, c, hc, rfl⟩ := y
    refine ⟨Ex.refl _, ?_⟩
    have e : w.cps.toList.getD i 0 = c := by
      rw [List.getD_eq_getElem?_getD, Array.getElem?_toList, hc]
      rfl
    show (dK R K (.text ⟨#[w.cps.toList.getD i 0]⟩)).p H' (.str ⟨#[c]⟩)
    rw [e]
    exact mX
/-- a for: Pv by the turn, the slots and the heap; the heap goes on by R from Hb, where the loop begins -/
theorem a_for {wi : TI} {g : TG} {tb : TS} {D : Ends} {n : Nat} {ds : Nat → Ds R} (hi : EI Re R wi σ H n ds) (er : ∀ H1, Re.r H H1 → R.r H H1) (Pv : Nat → L2.St → Hp → Prop) (h0 : ∀ H1, Re.r H H1 → Pv 0 σ H1)
    (hs : ∀ Hb, R.r H Hb → ∀ i x σ' H' H2, i < n → R.r Hb H' → Pv i σ' H' → Ex H' H2 → (ds i).p H2 x → g x σ' H2 fun σ3 H3 => tb { D with nx := fun σ4 H4 => R.r Hb H4 ∧ Pv (i + 1) σ4 H4, ct := fun σ4 H4 => R.r Hb H4 ∧ Pv (i + 1) σ4 H4, bk := D.nx } σ3 H3)
    (hd : ∀ σ' H', R.r H H' → Pv n σ' H' → D.nx σ' H') : tFor wi g tb D σ H := hi H (Re.refl H) _ fun J H2 G e2 hG keep w =>
  for_it w (fun i σ' H' => R.r H2 H' ∧ Pv i σ' H') ⟨R.refl H2, h0 H2 e2⟩ (fun i σ' H' _ p => keep _ _ p.1 hG) (fun i x σ' H3 H4 hi p y => hs H2 (er H2 e2) i x σ' H3 H4 hi p.1 p.2 y.1 y.2) fun σ' H' p => hd σ' H' (R.trans (er H2 e2) p.1) p.2
theorem a_forS {wi : TI} {g : TG} {tb tz : TS} {D : Ends} {n : Nat} {ds : Nat → Ds R} (hi : EI Re R wi σ H n ds) (er : ∀ H1, Re.r H H1 → R.r H H1) (Pv : Nat → L2.St → Hp → Prop) (h0 : ∀ H1, Re.r H H1 → Pv 0 σ H1)
    (hs : ∀ Hb, R.r H Hb → ∀ i x σ' H' H2, i < n → R.r Hb H' → Pv i σ' H' → Ex H' H2 → (ds i).p H2 x → g x σ' H2 fun σ3 H3 => tb { D with nx := fun σ4 H4 => R.r Hb H4 ∧ Pv (i + 1) σ4 H4, ct := fun σ4 H4 => R.r Hb H4 ∧ Pv (i + 1) σ4 H4, bk := tz D } σ3 H3)
    (hd : ∀ σ' H', R.r H H' → Pv n σ' H' → tz D σ' H') : tSeq (tFor wi g tb) tz D σ H := a_for (D := { D with nx := tz D }) hi er Pv h0 hs hd
end
section
variable {K : PySem.W.Frag} {σ : L2.St} {H H' : Hp} {te : TE} {ta : TA} {ks js : List NestedKey}
theorem ex_mut {H0 H H' : Hp} {p : Addr} {o : HO} (e : Ex H0 H') (h : H0 p = none) : Ex H0 (upd H' p o) := Ex.mut e h
/-- what a comprehension's turns give: the values, each told by (ks i) -/
def keptK (n : Nat) (b : Nat → Bool) (k : Nat → NestedKey) : List NestedKey := ((List.range n).filter b).map k
theorem keptK_succ {n : Nat} {b : Nat → Bool} {k : Nat → NestedKey} : keptK (n + 1) b k = keptK n b k ++ (if b n then [k n] else []) := by
  unfold keptK
  rw [List.range_succ, List.filter_append, List.map_append]
  congr 1
  cases hb : b n <;> simp [hb]
theorem keptK_len (n : Nat) (b : Nat → Bool) (k : Nat → NestedKey) : (keptK n b k).length ≤ n := by
  unfold keptK
  rw [List.length_map]
  have := List.length_filter_le b (List.range n)
  rw [List.length_range] at this
  exact this
theorem el_lc {wi : TI} {g : TG} {tt : L2.TT} {vs : List Nat} {n : Nat} {ds : Nat → Ds tx} (b : Nat → Bool) (k : Nat → NestedKey) (hi : EI tx tx wi σ H n ds) (hn : n ≤ 50000)
    (turn : ∀ i v H', i < n → Ex H H' → (ds i).p H' v → ∀ Q : L2.St → Hp → Prop, (∀ σ2 H2, wipe σ2 vs = wipe σ vs → Ex H' H2 → ET tx tt σ2 H2 (b i) → (b i = true → ED tx te σ2 H2 (dK tx K (k i))) → Q σ2 H2) → g v (wipe σ vs) H' Q) :
    ELk tx K (tLc wi g tt te vs) σ H (keptK n b k) := fun H1 e Q q => hi H1 e _ fun J H2 G e2 hG keep w => fun D hD => by
  refine lc_it w (fun i H' => Ex H2 H' ∧ ∃ xs, H' D = some (.lst xs) ∧ Tks K H' (keptK i b k) xs) ⟨Ex.new hD, [], upd_same, tks_nil.mpr rfl⟩ (fun i H' _ p => keep _ _ p.1 hG) (fun i x H3 H4 hi p y => ?_) fun H' p => ?_
  · obtain ⟨p1, xs, p2, p3⟩ := p
    refine turn i x H4 hi ((e.trans e2).trans (p1.trans y.1)) y.2 _ fun σ2 H5 hw e5 ht he => ⟨hw, ?_⟩
    refine ht H5 (Ex.refl _) _ fun H6 e6 => ?_
    have e36 := (y.1.trans e5).trans e6
    cases hb : b i with
    | false =>
      show _ ∧ _
      refine ⟨p1.trans e36, xs, e36 _ _ p2, ?_⟩
      rw [keptK_succ, hb]
      simp only [Bool.false_eq_true, if_false, List.append_nil]
      exact p3.ex e36
    | true =>
      show te σ2 H6 _
      refine he hb H6 e6 _ fun v H7 e7 pv => ⟨xs, e7 _ _ (e36 _ _ p2), ?_, ?_, xs ++ [v], upd_same, ?_⟩
      · rw [p3.len]
        have := keptK_len i b k
        exact sz_lt (by omega)
      · exact Ex.mut ((p1.trans e36).trans e7) hD
      · rw [keptK_succ, hb]
        simp only [if_true]
        have hD7 : H7 D = some (.lst xs) := e7 _ _ (e36 _ _ p2)
        have t7 : TSt H7 (upd H7 D (.lst (xs ++ [v]))) := (TSt.refl H7).lst hD7
        exact (((p3.ex e36).ex e7).to t7).snoc (Tk.to pv t7)
  · obtain ⟨p1, xs, p2, p3⟩ := p
    exact q D xs H' (fresh_back e2 hD) (e2.trans p1) p2 p3
theorem et_yes {R : Tr} : ET R tYes σ H true := fun H1 _ _ q => q H1 (R.refl H1)
/-- no tests -/
theorem el_lcA {wi : TI} {g : TG} {vs : List Nat} {n : Nat} {ds : Nat → Ds tx} (k : Nat → NestedKey) (hi : EI tx tx wi σ H n ds) (hn : n ≤ 50000)
    (turn : ∀ i v H', i < n → Ex H H' → (ds i).p H' v → ∀ Q : L2.St → Hp → Prop, (∀ σ2 H2, wipe σ2 vs = wipe σ vs → Ex H' H2 → ED tx te σ2 H2 (dK tx K (k i)) → Q σ2 H2) → g v (wipe σ vs) H' Q) :
    ELk tx K (tLc wi g tYes te vs) σ H ((List.range n).map k) := by
  have h := el_lc (te := te) (tt := tYes) (fun _ => true) k hi hn fun i v H' a1 a2 a3 Q q => turn i v H' a1 a2 a3 Q fun σ2 H2 b1 b2 b3 => q σ2 H2 b1 b2 et_yes fun _ => b3
  have e : keptK n (fun _ => true) k = (List.range n).map k := by
    unfold keptK
    rw [List.filter_eq_self.mpr (by simp)]
  rw [e] at h
  exact h
/-- the items of a list, mapped -/
theorem range_map {α : Type} {xs : List NestedKey} {f : NestedKey → α} : (List.range xs.length).map (fun i => f (xs.getD i .none)) = xs.map f := by
  refine List.ext_getElem? fun i => ?_
  rw [List.getElem?_map, List.getElem?_map]
  by_cases h : i < xs.length
  · rw [List.getElem?_range h, get_lt (d := .none) h]
    rfl
  · rw [List.getElem?_eq_none (by simpa using h), List.getElem?_eq_none (by simpa using h)]
    rfl
end
end Mk
set_option Elab.async false
set_option linter.all false
set_option maxRecDepth 100000
set_option maxHeartbeats 400000
/-! Equality, membership, sorting, dicts: what they evaluate to. -/
namespace Mk
open PySem L2 Evl
mutual
theorem eqv_key : ∀ a b : NestedKey, PyData.eqv a.data b.data = decide (a = b)
  | .none, .none => by simp [NestedKey.data, PyData.eqv]
  | .none, .num _ => by simp [NestedKey.data, PyData.eqv]
  | .none, .text _ => by simp [NestedKey.data, PyData.eqv]
  | .none, .tup _ => by simp [NestedKey.data, PyData.eqv]
  | .num _, .none => by simp [NestedKey.data, PyData.eqv]
  | .num i, .num j => by
    simp only [NestedKey.data, PyData.eqv, NestedKey.num.injEq]
    rw [Bool.eq_iff_iff]
    simp
  | .num _, .text _ => by simp [NestedKey.data, PyData.eqv]
  | .num _, .tup _ => by simp [NestedKey.data, PyData.eqv]
  | .text _, .none => by simp [NestedKey.data, PyData.eqv]
  | .text _, .num _ => by simp [NestedKey.data, PyData.eqv]
  | .text x, .text y => by
    simp only [NestedKey.data, PyData.eqv, NestedKey.text.injEq]
    rw [Bool.eq_iff_iff]
    simp
  | .text _, .tup _ => by simp [NestedKey.data, PyData.eqv]
  | .tup _, .none => by simp [NestedKey.data, PyData.eqv]
  | .tup _, .num _ => by simp [NestedKey.data, PyData.eqv]
  | .tup _, .text _ => by simp [NestedKey.data, PyData.eqv]
  | .tup xs, .tup ys => by
    simp only [NestedKey.data, PyData.eqv, NestedKey.tup.injEq]
    exact eqv_keys xs ys
theorem eqv_keys : ∀ xs ys : List NestedKey, PyData.eqvAll (NestedKey.datas xs) (NestedKey.datas ys) = decide (xs = ys)
  | [], [] => by simp [NestedKey.datas, PyData.eqvAll]
  | [], _ :: _ => by simp [NestedKey.datas, PyData.eqvAll]
  | _ :: _, [] => by simp [NestedKey.datas, PyData.eqvAll]
  | x :: xs, y :: ys => by
    simp only [NestedKey.datas, PyData.eqvAll, eqv_key x y, eqv_keys xs ys, List.cons.injEq]
    rw [Bool.eq_iff_iff]
    simp
end
/-- a key that comparing may be asked of -/
def Nice (k : NestedKey) : Prop := k.data.canLay0 = true ∧ k.data.depth ≤ 10
theorem lay_keys : ∀ {xs : List NestedKey}, (∀ k ∈ xs, k.data.canLay0 = true) → PyData.canLayAll0 (NestedKey.datas xs) = true
  | [], _ => by simp [NestedKey.datas, PyData.canLayAll0]
  | x :: xs, h => by
    have h2 := lay_keys (xs := xs) fun k hk => h k (List.mem_cons_of_mem _ hk)
    simp only [NestedKey.datas, PyData.canLayAll0, h x List.mem_cons_self, h2, Bool.and_self]
theorem depth_keys {n : Nat} : ∀ {xs : List NestedKey}, (∀ k ∈ xs, k.data.depth ≤ n) → PyData.depthAll (NestedKey.datas xs) ≤ n
  | [], _ => by simp [NestedKey.datas, PyData.depthAll]
  | x :: xs, h => by
    have h1 := h x List.mem_cons_self
    have h2 := depth_keys (n := n) (xs := xs) fun k hk => h k (List.mem_cons_of_mem _ hk)
    simp only [NestedKey.datas, PyData.depthAll]
    omega
theorem nice_tup {ks : List NestedKey} (h : ∀ k ∈ ks, k.data.canLay0 = true ∧ k.data.depth ≤ 9) : Nice (.tup ks) := by
  constructor
  · simp only [NestedKey.data, PyData.canLay0]
    exact lay_keys fun k hk => (h k hk).1
  · have := depth_keys (n := 9) fun k hk => (h k hk).2
    simp only [NestedKey.data, PyData.depth]
    omega
theorem shaped_key {k : NestedKey} (h : Nice k) : SeqAt.shaped k.data = true := by
  unfold SeqAt.shaped
  rw [h.1, Bool.true_and]
  have := h.2
  exact decide_eq_true (by omega)
theorem shaped_list {ks : List NestedKey} (h : ∀ k ∈ ks, Nice k) : SeqAt.shaped (.list (NestedKey.datas ks)) = true := by
  unfold SeqAt.shaped
  simp only [PyData.canLay0, lay_keys fun k hk => (h k hk).1, PyData.depth, Bool.true_and]
  have := depth_keys fun k hk => (h k hk).2
  exact decide_eq_true (by omega)
theorem any_keys (k : NestedKey) : ∀ ks : List NestedKey, ((NestedKey.datas ks).any fun z => PyData.eqv z k.data) = decide (k ∈ ks)
  | [] => by simp [NestedKey.datas]
  | x :: xs => by
    simp only [NestedKey.datas, List.any_cons, eqv_key, any_keys k xs, List.mem_cons]
    rw [Bool.eq_iff_iff]
    simp only [Bool.or_eq_true, decide_eq_true_eq]
    constructor
    · rintro (h | h)
      · exact .inl h.symm
      · exact .inr h
    · rintro (h | h)
      · exact .inl h.symm
      · exact .inr h
section
variable {R : Tr} {P : Program} {w : World} {K : PySem.W.Frag} {σ : L2.St} {H H' : Hp} {ta tb te : TE} {k : NestedKey} {ks js : List NestedKey}
theorem dp_list {a : Addr} {xs : List V} (h1 : SqL K H a xs) (h2 : Tks K H ks xs) : Dp K H (.ref a) (.list (NestedKey.datas ks)) := .lst h1 (Tks.dp ks xs h2)
theorem ed_eqD (hk : ∀ k ∈ ks, Nice k) (hj : ∀ k ∈ js, Nice k) (ha : ED R ta σ H (dL R K ks)) (hb : ED R tb σ H (dL R K js)) : ED R (tOp (rEqD K) ta tb) σ H (dV R (.bl (decide (ks = js)))) :=
  ed_op ha hb fun x y H1 _ px py Q q => by
    obtain ⟨a, xs, rfl, _, h1, h2⟩ := px
    obtain ⟨b, ys, rfl, _, g1, g2⟩ := py
    refine ⟨_, _, dp_list h1 h2, dp_list g1 g2, shaped_list hk, shaped_list hj, ?_⟩
    simp only [PyData.eqv, eqv_keys]
    exact q _ H1 (R.refl H1) rfl
theorem ed_inD (hk : Nice k) (hj : ∀ k ∈ js, Nice k) (ha : ED R ta σ H (dK R K k)) (hb : ED R tb σ H (dL R K js)) : ED R (tOp (rInD K) ta tb) σ H (dV R (.bl (decide (k ∈ js)))) :=
  ed_op ha hb fun x y H1 _ px py Q q => by
    obtain ⟨b, ys, rfl, _, g1, g2⟩ := py
    refine ⟨k.data, _, Tk.dp k x px, dp_list g1 g2, shaped_key hk, shaped_list hj, ?_⟩
    rw [any_keys]
    exact q _ H1 (R.refl H1) rfl
theorem ed_notInD (hk : Nice k) (hj : ∀ k ∈ js, Nice k) (ha : ED R ta σ H (dK R K k)) (hb : ED R tb σ H (dL R K js)) : ED R (tOp (rNotInD K) ta tb) σ H (dV R (.bl (!decide (k ∈ js)))) :=
  ed_op ha hb fun x y H1 _ px py Q q => by
    obtain ⟨b, ys, rfl, _, g1, g2⟩ := py
    refine ⟨k.data, _, Tk.dp k x px, dp_list g1 g2, shaped_key hk, shaped_list hj, ?_⟩
    rw [any_keys]
    exact q _ H1 (R.refl H1) rfl
/-- e is not None -/
theorem ed_notN (ha : ED R ta σ H (dK R K k)) (hb : ED R tb σ H (dK R K .none)) : ED R (tOp rNotN ta tb) σ H (dV R (.bl (!decide (k = .none)))) :=
  ed_op ha hb fun x y H1 _ px py Q q => by
    have ey : y = .non := (tk_none (K := K) (H := H1)).mp py
    have e : decide (x = V.non) = decide (k = .none) := by
      rw [Bool.eq_iff_iff, decide_eq_true_eq, decide_eq_true_eq]
      constructor
      · rintro rfl
        cases k with
        | none => rfl
        | num i => cases pN (R := R) px
        | text i => cases pX (R := R) px
        | tup js => obtain ⟨a, xs, e, _⟩ := pT (R := R) px; cases e
      · rintro rfl
        exact (tk_none (K := K) (H := H1)).mp px
    show y = .non ∧ Q (.bl (!decide (x = .non))) H1
    rw [e]
    exact ⟨ey, q _ H1 (R.refl H1) rfl⟩
/-- sorted(list) -/
theorem el_sortN (hs : Sorty ks) (h : ELk R K te σ H ks) : ELk R K (tCB (rSortN K) (tCons te tNil)) σ H (ksort ks) := fun H1 e Q q =>
  h H1 e _ fun p xs H2 hp e2 hx ht => ⟨p, xs, ks, rfl, .inl (.inl hx), ht, hs, fun r ys hr hy => q r ys _ (R.fresh e2 hr) (R.trans e2 (R.ex (Ex.new hr))) upd_same (hy.ex (Ex.new hr))⟩
theorem el_sortS (hs : Sorty ks) (h : ED R te σ H (dL R K ks)) : ELk R K (tCB (rSortN K) (tCons te tNil)) σ H (ksort ks) := fun H1 e Q q =>
  h H1 e _ fun v H2 e2 ⟨p, xs, ev, ok, hx, ht⟩ => ⟨p, xs, ks, by rw [ev], hx, ht, hs, fun r ys hr hy => q r ys _ (R.fresh e2 hr) (R.trans e2 (R.ex (Ex.new hr))) upd_same (hy.ex (Ex.new hr))⟩
/-- a new dict of nested keys -/
def EN (R : Tr) (P : Program) (w : World) (K : PySem.W.Frag) (te : TE) (σ : L2.St) (H : Hp) (kvs : List (NestedKey × V)) : Prop := ∀ H1, R.r H H1 → ∀ Q : VK, (∀ p H2, H1 p = none → R.r H1 H2 → ND P w K H2 p kvs → Q (.ref p) H2) → te σ H1 Q
theorem el_sortND {kvs : List (NestedKey × V)} (hs : Sorty (kvs.map (·.1))) (h : EN R P w K te σ H kvs) : ELk R K (tCB (rSortND P w K) (tCons te tNil)) σ H (ksort (kvs.map (·.1))) := fun H1 e Q q =>
  h H1 e _ fun p H2 hp e2 hn => ⟨p, kvs, rfl, hn, hs, fun r ys hr hy => q r ys _ (R.fresh e2 hr) (R.trans e2 (R.ex (Ex.new hr))) upd_same (hy.ex (Ex.new hr))⟩
/-- the dict at d -/
def dN (R : Tr) (P : Program) (w : World) (K : PySem.W.Frag) (kvs : List (NestedKey × V)) : Ds R :=
  ⟨fun H v => ∃ d, v = .ref d ∧ R.ok d ∧ ND P w K H d kvs, fun {H H' v} e ⟨d, h1, h2, h3⟩ => ⟨d, h1, h2, by
    obtain ⟨φ, hφ⟩ := h3.some_
    exact h3.ts (R.ts e) (by rw [hφ, R.keep e h2 hφ])⟩⟩
theorem el_sortNS {kvs : List (NestedKey × V)} (hs : Sorty (kvs.map (·.1))) (h : ED R te σ H (dN R P w K kvs)) : ELk R K (tCB (rSortND P w K) (tCons te tNil)) σ H (ksort (kvs.map (·.1))) := fun H1 e Q q =>
  h H1 e _ fun v H2 e2 ⟨p, ev, ok, hn⟩ => ⟨p, kvs, by rw [ev], hn, hs, fun r ys hr hy => q r ys _ (R.fresh e2 hr) (R.trans e2 (R.ex (Ex.new hr))) upd_same (hy.ex (Ex.new hr))⟩
theorem en_new : EN R P w K (tDNewN P w K) σ H [] := fun H1 e Q q p H' hp ex _ hn => q p H' hp (R.ex ex) hn
theorem en_call {sp : Sp} {E : XK} {ta : TA} {ds : List (Ds R)} {kvs : List (NestedKey × V)} (h : EA R ta σ H ds) (hs : ∀ vs H1, R.r H H1 → DA ds H1 vs → ∀ Q : VK, (∀ p H2, H1 p = none → R.r H1 H2 → ND P w K H2 p kvs → Q (.ref p) H2) → sp vs H1 Q E) :
    EN R P w K (tCall sp [] E ta) σ H kvs := fun H1 e Q q => h H1 e _ fun vs H2 e2 p => by
  rw [List.append_nil]
  exact hs vs H2 (R.trans e e2) p Q fun p H3 hp e3 hn => q p H3 (R.fresh e2 hp) (R.trans e2 e3) hn
/-- d[k] = v, the dict's address known -/
theorem a_nput {D : Ends} {td ty tv : TE} {d : Addr} {kvs : List (NestedKey × V)} {dv : Ds tx} (n : ND P w K H d kvs) (hv : ED tx tv σ H dv) (hd : ED tx td σ H (dV tx (.ref d))) (hk : ED tx ty σ H (dK tx K k)) (h8 : k.depth ≤ 8) (ht : ∃ js, k = .tup js) (hl : kvs.length ≤ 1000)
    (kk : ∀ v H1 H2, Ex H H1 → dv.p H1 v → ND P w K H1 d kvs → ND P w K H2 d (putK kvs k v) → (∀ b, b ≠ d → H2 b = H1 b) → D.nx σ H2) : sNPut P w K td ty tv D σ H :=
  hv H (Ex.refl H) _ fun v H1 e1 p1 => hd H1 e1 _ fun x H2 e2 p2 => hk H2 (e1.trans e2) _ fun y H3 e3 p3 => by
    have p2 : x = .ref d := p2
    have e := (Ex.trans e1 e2).trans e3
    exact ⟨d, kvs, k, p2, n.ex e, p3, h8, ht, hl, fun H4 n4 o4 => kk v H3 H4 e (dv.mono (Ex.trans e2 e3) p1) (n.ex e) n4 o4⟩
theorem ed_nget {td ty : TE} {kvs : List (NestedKey × V)} {v : V} {dv : Ds R} (hd : ED R td σ H (dN R P w K kvs)) (hk : ED R ty σ H (dK R K k)) (h8 : k.depth ≤ 8) (ht : ∃ js, k = .tup js) (hv : valV kvs k = some v) (p : ∀ H1, R.r H H1 → dv.p H1 v) : ED R (tNGet P w K td ty) σ H dv := fun H1 e Q q =>
  hd H1 e _ fun x H2 e2 p2 => hk H2 (R.trans e e2) _ fun y H3 e3 p3 => by
    obtain ⟨d, ex, ok, n⟩ := (dN R P w K kvs).mono e3 p2
    exact ⟨d, kvs, k, v, ex, n, p3, h8, ht, hv, q v H3 (R.trans e2 e3) (p H3 (R.trans (R.trans e e2) e3))⟩
/-- seen from ahead of the dict's making -/
theorem ex_nput {H0 H1 H2 : Hp} {d : Addr} (h0 : H0 d = none) (e : Ex H0 H1) (o : ∀ b, b ≠ d → H2 b = H1 b) : Ex H0 H2 := fun a u h => by
  rw [o a (ne_of_none h h0)]
  exact e a u h
theorem tE_nput {H0 H1 H2 : Hp} {d : Addr} {kvs jvs : List (NestedKey × V)} (e : (tE d).r H0 H1) (n : ND P w K H1 d kvs) (n2 : ND P w K H2 d jvs) (o : ∀ b, b ≠ d → H2 b = H1 b) : (tE d).r H0 H2 := by
  obtain ⟨φ, hφ⟩ := n.some_
  obtain ⟨ψ, hψ⟩ := n2.some_
  refine (tE d).trans e ⟨fun a u h q => by rw [o a h]; exact q, fun a xs q => ?_, fun a q => ?_⟩
  · have ne : a ≠ d := fun z => by rw [z, hφ] at q; cases q
    rw [o a ne]
    exact q
  · by_cases z : a = d
    · rw [z, hψ] at q; cases q
    · rw [o a z] at q; exact q
theorem put_new {kvs : List (NestedKey × V)} {k : NestedKey} {v : V} (h : k ∉ kvs.map (·.1)) : putK kvs k v = kvs ++ [(k, v)] := by
  unfold putK
  rw [if_neg]
  rw [List.any_eq_true]
  rintro ⟨p, hp, e⟩
  exact h (List.mem_map.mpr ⟨p, hp, of_decide_eq_true e⟩)
/-- where all values are the same -/
theorem put_same {α : Type} [DecidableEq α] {f : α → NestedKey} (hf : ∀ a b, f a = f b → a = b) {l : List α} {a : α} {v : V} : putK (l.map fun x => (f x, v)) (f a) v = (ins l a).map fun x => (f x, v) := by
  unfold putK ins
  by_cases h : a ∈ l
  · rw [if_pos h, if_pos]
    · rw [List.map_map]
      refine List.map_congr_left fun x _ => ?_
      show (if f x = f a then (f x, v) else (f x, v)) = (f x, v)
      split <;> rfl
    · rw [List.any_eq_true]
      exact ⟨(f a, v), List.mem_map.mpr ⟨a, h, rfl⟩, by simp⟩
  · rw [if_neg h, if_neg]
    · rw [List.map_append]
      rfl
    · rw [List.any_eq_true]
      rintro ⟨p, hp, e⟩
      obtain ⟨x, hx, rfl⟩ := List.mem_map.mp hp
      have := hf _ _ (of_decide_eq_true e)
      subst this
      exact h hx
end
end Mk
set_option Elab.async false
set_option linter.all false
set_option maxRecDepth 100000
set_option maxHeartbeats 2000000
/-! The defs of the text, and what the top has written. -/
namespace Mk
open PySem PySem.Spec PyProof.Rows L2 Evl
def topS (i : Nat) : Stmt := PySem.Challenge.pw_railshut_k17_motions_exact.main.body.getD i (.Pass ⟨0, 0, 0, 0⟩)
abbrev s_step : Stmt := topS 5
theorem sc_step : FnScope ["direction", "many", "found"] ["direction", "many"] (defScope s_step) := ⟨rfl, rfl, rfl, by decide +kernel, rfl, by decide +kernel, by decide +kernel⟩
abbrev s_moved : Stmt := topS 6
theorem sc_moved : FnScope ["position", "other", "one", "two"] ["position", "other"] (defScope s_moved) := ⟨rfl, rfl, rfl, by decide +kernel, rfl, by decide +kernel, by decide +kernel⟩
abbrev s_turned : Stmt := topS 7
theorem sc_turned : FnScope ["position", "eighths", "found", "direction", "many"] ["position", "eighths"] (defScope s_turned) := ⟨rfl, rfl, rfl, by decide +kernel, rfl, by decide +kernel, by decide +kernel⟩
abbrev s_laid : Stmt := topS 8
theorem sc_laid : FnScope ["pose", "other"] ["pose", "other"] (defScope s_laid) := ⟨rfl, rfl, rfl, by decide +kernel, rfl, by decide +kernel, by decide +kernel⟩
abbrev s_back : Stmt := topS 9
theorem sc_back : FnScope ["pose"] ["pose"] (defScope s_back) := ⟨rfl, rfl, rfl, by decide +kernel, rfl, by decide +kernel, by decide +kernel⟩
abbrev s_ends_of : Stmt := topS 15
theorem sc_ends_of : FnScope ["kind", "pose", "ends", "end"] ["kind", "pose"] (defScope s_ends_of) := ⟨rfl, rfl, rfl, by decide +kernel, rfl, by decide +kernel, by decide +kernel⟩
abbrev s_all_ends : Stmt := topS 17
theorem sc_all_ends : FnScope ["layout", "found", "number", "piece", "end", "pose"] ["layout"] (defScope s_all_ends) := ⟨rfl, rfl, rfl, by decide +kernel, rfl, by decide +kernel, by decide +kernel⟩
abbrev s_shape : Stmt := topS 19
theorem sc_shape : FnScope ["piece", "motion", "kind", "pose", "end"] ["piece", "motion"] (defScope s_shape) := ⟨rfl, rfl, rfl, by decide +kernel, rfl, by decide +kernel, by decide +kernel⟩
abbrev s_shapes : Stmt := topS 20
theorem sc_shapes : FnScope ["layout", "motion", "found", "number", "piece"] ["layout", "motion"] (defScope s_shapes) := ⟨rfl, rfl, rfl, by decide +kernel, rfl, by decide +kernel, by decide +kernel⟩
abbrev s_motion_between : Stmt := topS 21
theorem sc_motion_between : FnScope ["pose", "other", "eighths", "away", "one"] ["pose", "other"] (defScope s_motion_between) := ⟨rfl, rfl, rfl, by decide +kernel, rfl, by decide +kernel, by decide +kernel⟩
abbrev s_motions : Stmt := topS 22
theorem sc_motions : FnScope ["layout", "ends", "own", "found", "_", "pose", "motion"] ["layout"] (defScope s_motions) := ⟨rfl, rfl, rfl, by decide +kernel, rfl, by decide +kernel, by decide +kernel⟩
abbrev s_alike : Stmt := topS 23
theorem sc_alike : FnScope ["layout", "own", "groups", "motion", "found", "group", "place", "number"] ["layout"] (defScope s_alike) := ⟨rfl, rfl, rfl, by decide +kernel, rfl, by decide +kernel, by decide +kernel⟩
abbrev s__law_cell : Stmt := topS 26
theorem sc__law_cell : FnScope ["_law_script", "_law_k"] ["_law_script", "_law_k"] (defScope s__law_cell) := ⟨rfl, rfl, rfl, by decide +kernel, rfl, by decide +kernel, by decide +kernel⟩
abbrev s__law_same : Stmt := topS 28
theorem sc__law_same : FnScope ["_law_actual", "_law_due"] ["_law_actual", "_law_due"] (defScope s__law_same) := ⟨rfl, rfl, rfl, by decide +kernel, rfl, by decide +kernel, by decide +kernel⟩
abbrev s__law_digits : Stmt := topS 29
theorem sc__law_digits : FnScope ["_law_script", "_law_first", "_law_last", "_law_digits_here", "_law_k", "_law_cell_here", "_law_turn", "_law_seed"] ["_law_script", "_law_first", "_law_last"] (defScope s__law_digits) := ⟨rfl, rfl, rfl, by decide +kernel, rfl, by decide +kernel, by decide +kernel⟩
abbrev s__law_draw : Stmt := topS 30
theorem sc__law_draw : FnScope ["_law_box", "_law_many", "_law_at"] ["_law_box", "_law_many"] (defScope s__law_draw) := ⟨rfl, rfl, rfl, by decide +kernel, rfl, by decide +kernel, by decide +kernel⟩
abbrev s__law_pick : Stmt := topS 31
theorem sc__law_pick : FnScope ["_law_box", "_law_rows"] ["_law_box", "_law_rows"] (defScope s__law_pick) := ⟨rfl, rfl, rfl, by decide +kernel, rfl, by decide +kernel, by decide +kernel⟩
abbrev s__law_move : Stmt := topS 32
theorem sc__law_move : FnScope ["_law_position", "_law_direction", "_law_many", "_law_at", "_law_row"] ["_law_position", "_law_direction", "_law_many"] (defScope s__law_move) := ⟨rfl, rfl, rfl, by decide +kernel, rfl, by decide +kernel, by decide +kernel⟩
abbrev s__law_turned : Stmt := topS 33
theorem sc__law_turned : FnScope ["_law_position", "_law_eighths", "_law_found", "_law_k"] ["_law_position", "_law_eighths"] (defScope s__law_turned) := ⟨rfl, rfl, rfl, by decide +kernel, rfl, by decide +kernel, by decide +kernel⟩
abbrev s__law_laid : Stmt := topS 34
theorem sc__law_laid : FnScope ["_law_pose_here", "_law_other", "_law_place", "_law_k"] ["_law_pose_here", "_law_other"] (defScope s__law_laid) := ⟨rfl, rfl, rfl, by decide +kernel, rfl, by decide +kernel, by decide +kernel⟩
abbrev s__law_back : Stmt := topS 36
theorem sc__law_back : FnScope ["_law_pose_here"] ["_law_pose_here"] (defScope s__law_back) := ⟨rfl, rfl, rfl, by decide +kernel, rfl, by decide +kernel, by decide +kernel⟩
abbrev s__law_led : Stmt := topS 37
theorem sc__law_led : FnScope ["_law_pose_here", "_law_row", "_law_found", "_law_letter", "_law_place", "_law_h"] ["_law_pose_here", "_law_row"] (defScope s__law_led) := ⟨rfl, rfl, rfl, by decide +kernel, rfl, by decide +kernel, by decide +kernel⟩
abbrev s__law_home : Stmt := topS 39
theorem sc__law_home : FnScope [] [] (defScope s__law_home) := ⟨rfl, rfl, rfl, by decide +kernel, rfl, by decide +kernel, by decide +kernel⟩
abbrev s__law_mirror : Stmt := topS 41
theorem sc__law_mirror : FnScope ["_law_row", "_law_letter"] ["_law_row"] (defScope s__law_mirror) := ⟨rfl, rfl, rfl, by decide +kernel, rfl, by decide +kernel, by decide +kernel⟩
abbrev s__law_loop : Stmt := topS 43
theorem sc__law_loop : FnScope ["_law_box", "_law_kind", "_law_first", "_law_second", "_law_at", "_law_row"] ["_law_box"] (defScope s__law_loop) := ⟨rfl, rfl, rfl, by decide +kernel, rfl, by decide +kernel, by decide +kernel⟩
abbrev s__law_ends_of : Stmt := topS 44
theorem sc__law_ends_of : FnScope ["_law_kind", "_law_pose_here", "_law_rows", "_law_found", "_law_row", "_law_place"] ["_law_kind", "_law_pose_here"] (defScope s__law_ends_of) := ⟨rfl, rfl, rfl, by decide +kernel, rfl, by decide +kernel, by decide +kernel⟩
abbrev s__law_all_ends : Stmt := topS 45
theorem sc__law_all_ends : FnScope ["_law_layout_here", "_law_found", "_law_number", "_law_ends", "_law_k"] ["_law_layout_here"] (defScope s__law_all_ends) := ⟨rfl, rfl, rfl, by decide +kernel, rfl, by decide +kernel, by decide +kernel⟩
abbrev s__law_is_free : Stmt := topS 46
theorem sc__law_is_free : FnScope ["_law_layout_here", "_law_pieces", "_law_seen_here", "_law_kind", "_law_pose_here", "_law_end", "_law_row"] ["_law_layout_here", "_law_pieces"] (defScope s__law_is_free) := ⟨rfl, rfl, rfl, by decide +kernel, rfl, by decide +kernel, by decide +kernel⟩
abbrev s__law_placed : Stmt := topS 47
theorem sc__law_placed : FnScope ["_law_pose_here", "_law_row", "_law_poses", "_law_found", "_law_k"] ["_law_pose_here", "_law_row"] (defScope s__law_placed) := ⟨rfl, rfl, rfl, by decide +kernel, rfl, by decide +kernel, by decide +kernel⟩
abbrev s__law_shapes : Stmt := topS 48
theorem sc__law_shapes : FnScope ["_law_layout_here", "_law_motion", "_law_found", "_law_number", "_law_ends", "_law_kind", "_law_pose_here", "_law_end"] ["_law_layout_here", "_law_motion"] (defScope s__law_shapes) := ⟨rfl, rfl, rfl, by decide +kernel, rfl, by decide +kernel, by decide +kernel⟩
abbrev s__law_between : Stmt := topS 49
theorem sc__law_between : FnScope ["_law_pose_here", "_law_other", "_law_eighths", "_law_away", "_law_k"] ["_law_pose_here", "_law_other"] (defScope s__law_between) := ⟨rfl, rfl, rfl, by decide +kernel, rfl, by decide +kernel, by decide +kernel⟩
abbrev s__law_motions : Stmt := topS 50
theorem sc__law_motions : FnScope ["_law_layout_here", "_law_ends", "_law_own", "_law_found", "_law_row", "_law_motion", "_law_pair", "_law_eighths"] ["_law_layout_here"] (defScope s__law_motions) := ⟨rfl, rfl, rfl, by decide +kernel, rfl, by decide +kernel, by decide +kernel⟩
abbrev s__law_layout : Stmt := topS 51
theorem sc__law_layout : FnScope ["_law_box", "_law_kind", "_law_pose_here", "_law_found", "_law_lap", "_law_ring", "_law_piece", "_law_turns", "_law_k"] ["_law_box"] (defScope s__law_layout) := ⟨rfl, rfl, rfl, by decide +kernel, rfl, by decide +kernel, by decide +kernel⟩
abbrev s_law : Stmt := topS 52
theorem sc_law : FnScope ["_law_script", "_law_box", "_law_layout_here", "_law_told", "_law_due", "_law_one", "_law_other", "_law_own", "_law_groups", "_law_motion", "_law_sets", "_law_number", "_law_row", "_law_k", "_law_group", "_law_piece"] ["_law_script"] (defScope s_law) := ⟨rfl, rfl, rfl, by decide +kernel, rfl, by decide +kernel, by decide +kernel⟩

/-- a def stands under its name -/
structure FnAt (K : PySem.W.Frag) (mg : Str → Option Value) (nm : Str) (st : Stmt) (ps : List Str) (f : Addr) (fd : FuncData) : Prop where
  fn : L2.Fun K nm nm st f fd
  bd : Binds K fd ps []
  gl : mg nm = some (.ref f)
/-- the addresses -/
structure Da where
  f : Nat → Addr
  fd : Nat → FuncData
  t8 : Tok
  t4 : Tok
  nowhere : Addr
  home : Addr
  oth : Addr
structure Tx (w : World) (K : PySem.W.Frag) (mg : Str → Option Value) (d : Da) : Prop where
  step : FnAt K mg "step" s_step ["direction", "many"] (d.f 0) (d.fd 0)
  moved : FnAt K mg "moved" s_moved ["position", "other"] (d.f 1) (d.fd 1)
  turned : FnAt K mg "turned" s_turned ["position", "eighths"] (d.f 2) (d.fd 2)
  laid : FnAt K mg "laid" s_laid ["pose", "other"] (d.f 3) (d.fd 3)
  back : FnAt K mg "back" s_back ["pose"] (d.f 4) (d.fd 4)
  ends_of : FnAt K mg "ends_of" s_ends_of ["kind", "pose"] (d.f 5) (d.fd 5)
  all_ends : FnAt K mg "all_ends" s_all_ends ["layout"] (d.f 6) (d.fd 6)
  shape : FnAt K mg "shape" s_shape ["piece", "motion"] (d.f 7) (d.fd 7)
  shapes : FnAt K mg "shapes" s_shapes ["layout", "motion"] (d.f 8) (d.fd 8)
  motion_between : FnAt K mg "motion_between" s_motion_between ["pose", "other"] (d.f 9) (d.fd 9)
  motions : FnAt K mg "motions" s_motions ["layout"] (d.f 10) (d.fd 10)
  alike : FnAt K mg "alike" s_alike ["layout"] (d.f 11) (d.fd 11)
  _law_cell : FnAt K mg "_law_cell" s__law_cell ["_law_script", "_law_k"] (d.f 12) (d.fd 12)
  _law_same : FnAt K mg "_law_same" s__law_same ["_law_actual", "_law_due"] (d.f 13) (d.fd 13)
  _law_digits : FnAt K mg "_law_digits" s__law_digits ["_law_script", "_law_first", "_law_last"] (d.f 14) (d.fd 14)
  _law_draw : FnAt K mg "_law_draw" s__law_draw ["_law_box", "_law_many"] (d.f 15) (d.fd 15)
  _law_pick : FnAt K mg "_law_pick" s__law_pick ["_law_box", "_law_rows"] (d.f 16) (d.fd 16)
  _law_move : FnAt K mg "_law_move" s__law_move ["_law_position", "_law_direction", "_law_many"] (d.f 17) (d.fd 17)
  _law_turned : FnAt K mg "_law_turned" s__law_turned ["_law_position", "_law_eighths"] (d.f 18) (d.fd 18)
  _law_laid : FnAt K mg "_law_laid" s__law_laid ["_law_pose_here", "_law_other"] (d.f 19) (d.fd 19)
  _law_back : FnAt K mg "_law_back" s__law_back ["_law_pose_here"] (d.f 20) (d.fd 20)
  _law_led : FnAt K mg "_law_led" s__law_led ["_law_pose_here", "_law_row"] (d.f 21) (d.fd 21)
  _law_home : FnAt K mg "_law_home" s__law_home [] (d.f 22) (d.fd 22)
  _law_mirror : FnAt K mg "_law_mirror" s__law_mirror ["_law_row"] (d.f 23) (d.fd 23)
  _law_loop : FnAt K mg "_law_loop" s__law_loop ["_law_box"] (d.f 24) (d.fd 24)
  _law_ends_of : FnAt K mg "_law_ends_of" s__law_ends_of ["_law_kind", "_law_pose_here"] (d.f 25) (d.fd 25)
  _law_all_ends : FnAt K mg "_law_all_ends" s__law_all_ends ["_law_layout_here"] (d.f 26) (d.fd 26)
  _law_is_free : FnAt K mg "_law_is_free" s__law_is_free ["_law_layout_here", "_law_pieces"] (d.f 27) (d.fd 27)
  _law_placed : FnAt K mg "_law_placed" s__law_placed ["_law_pose_here", "_law_row"] (d.f 28) (d.fd 28)
  _law_shapes : FnAt K mg "_law_shapes" s__law_shapes ["_law_layout_here", "_law_motion"] (d.f 29) (d.fd 29)
  _law_between : FnAt K mg "_law_between" s__law_between ["_law_pose_here", "_law_other"] (d.f 30) (d.fd 30)
  _law_motions : FnAt K mg "_law_motions" s__law_motions ["_law_layout_here"] (d.f 31) (d.fd 31)
  _law_layout : FnAt K mg "_law_layout" s__law_layout ["_law_box"] (d.f 32) (d.fd 32)
  law : FnAt K mg "law" s_law ["_law_script"] (d.f 33) (d.fd 33)
  len : mg "len" = none
  range : mg "range" = none
  zip : mg "zip" = none
  enumerate : mg "enumerate" = none
  tuple : mg "tuple" = none
  list : mg "list" = none
  int : mg "int" = none
  sorted : mg "sorted" = none
  repr : mg "repr" = none
  EIGHTHS : mg "EIGHTHS" = some (.int 8 d.t8)
  HALF : mg "HALF" = some (.int 4 d.t4)
  NOWHERE : mg "NOWHERE" = some (.ref d.nowhere)
  kNOWHERE : ∀ H, Tk K H (posK P4.nul) (.ref d.nowhere)
  HOME : mg "HOME" = some (.ref d.home)
  kHOME : ∀ H, Tk K H (poseK home) (.ref d.home)
  OTHER_ENDS : mg "OTHER_ENDS" = some (.ref d.oth)
  kOTHER : ∀ k : Kd, ∃ v, KDct K w d.oth k.str v ∧ ∀ H, Tk K H (.tup ((others k).map poseK)) v
section
variable {w : World} {K : PySem.W.Frag} {mg : Str → Option Value} {d : Da}
theorem Tx.rEIGHTHS (_ : Tx w K mg d) : RelV (.int 8) (.int 8 d.t8) := ⟨_, rfl⟩
theorem Tx.rHALF (_ : Tx w K mg d) : RelV (.int 4) (.int 4 d.t4) := ⟨_, rfl⟩
theorem Tx.rNOWHERE (_ : Tx w K mg d) : RelV (.ref d.nowhere) (.ref d.nowhere) := rfl
theorem Tx.rHOME (_ : Tx w K mg d) : RelV (.ref d.home) (.ref d.home) := rfl
theorem Tx.rOTHER_ENDS (_ : Tx w K mg d) : RelV (.ref d.oth) (.ref d.oth) := rfl
end
section
variable {X : Cx} {nm : Str} {df : Stmt} {ps : List Str} {f : Addr} {fd : FuncData} {k : Nat} {sp : Sp} {e : Expr} {es : List Expr} {t : TA} {p pos : Pos}
theorem pc (T : FnAt X.K X.mg nm df ps f fd) (F : FnOk X.prog X.w X.K X.mg X.base CX0 k f fd ps sp) (hr : Room k X.A) (ha : PA X (e :: es) t) (hg : Gl X nm := by rfl) (hdb : (nm == ("__debug__" : Str)) = false := by decide)
    (he : starEach (e :: es) X.env = (false, eval e X.env) :: starEach es X.env := by rfl) (hpl : (backTo pos (starEach es X.env)).any (·.1) = false := by rfl) : PE X (.Call (.Name nm p) (e :: es) [] pos) (tCall sp [] E0 t) :=
  pe_call F hr hg T.gl T.fn.kp T.bd .nil pass0 ha hdb he hpl
theorem pc0 (T : FnAt X.K X.mg nm df ps f fd) (F : FnOk X.prog X.w X.K X.mg X.base CX0 k f fd ps sp) (hr : Room k X.A) (hg : Gl X nm := by rfl) (hdb : (nm == ("__debug__" : Str)) = false := by decide) :
    PE X (.Call (.Name nm p) [] [] pos) (tCall sp [] E0 tNil) :=
  pe_call0 F hr hg T.gl T.fn.kp T.bd .nil pass0 hdb
theorem hu65 {A : Around} {k : Nat} (hr : Room k A) : A.units + 65 < cLine := by have := hr.un; omega
end
end Mk
namespace Mk
open PySem PySem.Spec PyProof.Rows L2 Evl
def rTupS (K : PySem.W.Frag) : List V → Hp → VK → Prop := fun xs H Q => ∃ p ys, xs = [.ref p] ∧ ((SqL K H p ys ∧ ∀ l, H l = none → Q (.ref l) (upd H l (.tup ys))) ∨ (SqT K H p ys ∧ Q (.ref p) H))
theorem cr_tupS {X : Cx} : CallR X (.type "tuple") (rTupS X.K) := call_tuple_of
end Mk
set_option Elab.async false
set_option linter.all false
set_option maxRecDepth 100000
set_option maxHeartbeats 400000
/-! poses: step, moved, turned, laid, back -/
namespace Mk
open PySem PySem.Spec PyProof.Rows L2 Evl
def posL (p : P4) : List NestedKey := [.num p.a, .num p.b, .num p.c, .num p.d]
theorem posK_L (p : P4) : posK p = .tup (posL p) := rfl
theorem step_math (dir many : Int) : ([.num 0, .num 0, .num 0, .num 0] : List NestedKey).set (dir % 8 % 4).toNat (.num (if dir % 8 < 4 then many else 0 - many)) = posL (unit dir many) := by
  have h := rot_cases dir ⟨many, 0, 0, 0⟩
  have e8 : dir % 8 % 4 = (dir % 8) % 4 := rfl
  unfold unit
  rcases h with ⟨h1, h2⟩ | ⟨h1, h2⟩ | ⟨h1, h2⟩ | ⟨h1, h2⟩ | ⟨h1, h2⟩ | ⟨h1, h2⟩ | ⟨h1, h2⟩ | ⟨h1, h2⟩ <;> (rw [h1, h2]; simp [posL])
def fStep (ks : List NestedKey) (k : NestedKey) : Prop := ∃ dir many, ks = [.num dir, .num many] ∧ k = posK (unit dir many)
def fMoved (ks : List NestedKey) (k : NestedKey) : Prop := ∃ x y, ks = [posK x, posK y] ∧ k = posK (x.add y)
def fTurned (ks : List NestedKey) (k : NestedKey) : Prop := ∃ x e, ks = [posK x, .num e] ∧ k = posK (rot e x)
def fLaid (ks : List NestedKey) (k : NestedKey) : Prop := ∃ m e, ks = [poseK m, poseK e] ∧ k = poseK (laid m e)
def fBack (ks : List NestedKey) (k : NestedKey) : Prop := ∃ p, ks = [poseK p] ∧ k = poseK (laid p back0)
theorem len_of {K : PySem.W.Frag} {f : List NestedKey → NestedKey → Prop} {n : Nat} (hf : ∀ ks k, f ks k → ks.length = n) {vs : List V} {H : Hp} {Q : VK} {E : XK} (h : spK K f vs H Q E) : vs.length = n := by
  obtain ⟨ks, k, h1, h2, _⟩ := h
  rw [h2.len, hf ks k h1]
theorem len_ofL {K : PySem.W.Frag} {f : List NestedKey → List NestedKey → Prop} {n : Nat} (hf : ∀ ks k, f ks k → ks.length = n) {vs : List V} {H : Hp} {Q : VK} {E : XK} (h : spKL K f vs H Q E) : vs.length = n := by
  obtain ⟨ks, k, h1, h2, _⟩ := h
  rw [h2.len, hf ks k h1]
section
variable {K : PySem.W.Frag} {H : Hp} {vs : List V}
theorem tks1 {k1 : NestedKey} (h : Tks K H [k1] vs) : ∃ v1, vs = [v1] ∧ Tk K H k1 v1 := by
  obtain ⟨v1, r, rfl, h1, h2⟩ := tks_cons.mp h
  rw [tks_nil.mp h2]
  exact ⟨v1, rfl, h1⟩
theorem tks2 {k1 k2 : NestedKey} (h : Tks K H [k1, k2] vs) : ∃ v1 v2, vs = [v1, v2] ∧ Tk K H k1 v1 ∧ Tk K H k2 v2 := by
  obtain ⟨v1, r, rfl, h1, h2⟩ := tks_cons.mp h
  obtain ⟨v2, rfl, h3⟩ := tks1 h2
  exact ⟨v1, v2, rfl, h1, h3⟩
theorem tks3 {k1 k2 k3 : NestedKey} (h : Tks K H [k1, k2, k3] vs) : ∃ v1 v2 v3, vs = [v1, v2, v3] ∧ Tk K H k1 v1 ∧ Tk K H k2 v2 ∧ Tk K H k3 v3 := by
  obtain ⟨v1, r, rfl, h1, h2⟩ := tks_cons.mp h
  obtain ⟨v2, v3, rfl, h3, h4⟩ := tks2 h2
  exact ⟨v1, v2, v3, rfl, h1, h3, h4⟩
end
theorem Tks.set {K : PySem.W.Frag} {H : Hp} {k : NestedKey} {v : V} (hv : Tk K H k v) : ∀ {ks : List NestedKey} {xs : List V} (n : Nat), Tks K H ks xs → Tks K H (ks.set n k) (xs.set n v)
  | [], xs, n, h => by
    rw [tks_nil.mp h]
    exact tks_nil.mpr rfl
  | k0 :: ks, xs, 0, h => by
    obtain ⟨x, r, rfl, h1, h2⟩ := tks_cons.mp h
    exact tks_cons.mpr ⟨v, r, rfl, hv, h2⟩
  | k0 :: ks, xs, n + 1, h => by
    obtain ⟨x, r, rfl, h1, h2⟩ := tks_cons.mp h
    exact tks_cons.mpr ⟨x, r.set n v, rfl, h1, Tks.set hv n h2⟩
section
variable {P : Program} {w : World} {K : PySem.W.Frag} {mg : Str → Option Value} {base : Heap} {d : Da}
theorem ok_step (T : Tx w K mg d) : FnOk P w K mg base CX0 1 (d.f 0) (d.fd 0) ["direction", "many"] (spK K fStep) := by
  have nd := sc_step.nd
  refine T.step.fn.ok sc_step (fun vs H Q E h => len_of (fun ks k ⟨_, _, e, _⟩ => by rw [e]; rfl) h) (fun cdv A outer s H vs Q E hr h => ?_)
  obtain ⟨_, _, ⟨dir, many, rfl, rfl⟩, ht, q⟩ := h
  obtain ⟨v1, v2, rfl, h1, h2⟩ := tks2 ht
  rw [tk_num.mp h1, tk_num.mp h2]
  refine ⟨_, (pss_cons (ps_set (i := 2) nd rfl (.inl rfl) (pe_lst (pa_cons pe_int (pa_cons pe_int (pa_cons pe_int (pa_cons pe_int pa_nil))))))
      (pss_cons (ps_set (i := 0) nd rfl (.inl rfl) (pe_op op_mod (pv 0) (pe_glob (by rfl) T.EIGHTHS T.rEIGHTHS)))
      (pss_cons (ps_asg (pe_ifExp (pt_cmpR op_lt (pv 0) (pe_glob (by rfl) T.HALF T.rHALF) (nomark _)) (pv 1) (pe_op op_sub pe_int (pv 1))) (pg_sub (pv 2) (pe_op op_mod (pv 0) (pe_glob (by rfl) T.HALF T.rHALF)) set_list))
      (pss_one (ps_ret (pe_callTy call_tuple_of (by rfl) T.tuple PyProof.Rows.boot_tuple (pa_cons (pv 2) pa_nil))))))), ?_⟩
  -- found = [0, 0, 0, 0]
  refine a_setL (R := tx) (el_lst (K := K) [.num 0, .num 0, .num 0, .num 0] (ea_cons ed_int (ea_cons ed_int (ea_cons ed_int (ea_one ed_int)))) (by decide)) fun p xs H1 hp e1 hx t1 => ?_
  -- direction = direction % 8
  refine a_set (R := tx) (ed_mod (K := K) (i := dir) (j := 8) (by decide) (ed_num rfl) ed_int) fun v H2 e2 hv => ?_
  have hv := pN hv
  subst hv
  have hx2 := e2 _ _ hx
  have t2 := t1.ex e2
  have h0 : 0 ≤ dir % 8 := Int.emod_nonneg _ (by decide)
  have hj : (dir % 8 % 4).toNat < 4 := by have := Int.emod_lt_of_pos (dir % 8) (show (0 : Int) < 4 by decide); have := Int.emod_nonneg (dir % 8) (show (4 : Int) ≠ 0 by decide); omega
  have e4 : dir % 8 % 4 = (((dir % 8 % 4).toNat : Nat) : Int) := by have := Int.emod_nonneg (dir % 8) (show (4 : Int) ≠ 0 by decide); omega
  have hk := ed_mod (R := tx) (K := K) (H := H2) (ta := tVar 0) (tb := tC (.int 4)) (σ := ((start ["direction", "many", "found"] [V.int dir, V.int many]).set 2 (some (.ref p))).set 0 (some (.int (dir % 8)))) (i := dir % 8) (j := 4) (by decide) (ed_num rfl) ed_int
  rw [e4] at hk
  refine a_setIx (R := tx) (K := K) (d := dK tx K (.num (if dir % 8 < 4 then many else 0 - many))) hx2 trivial (ed_if (b := decide (dir % 8 < 4)) (et_v (ed_I0b (K := K) (i := dir % 8) (j := 4) (ed_num rfl) ed_int)) (fun hb => ?_) fun hb => ?_) (ed_ref rfl) hk (by rw [t1.len]; exact hj) fun v H3 e3 hv hl => ?_
  · rw [if_pos (of_decide_eq_true hb)]
    exact ed_num rfl
  · rw [if_neg (of_decide_eq_false hb)]
    exact ed_sub ed_int (ed_num rfl)
  -- return tuple(found)
  have t3 : Tks K (upd H3 p (.lst (xs.set (dir % 8 % 4).toNat v))) (posL (unit dir many)) (xs.set (dir % 8 % 4).toNat v) := by
    rw [← step_math]
    have ts : TSt H2 (upd H3 p (.lst (xs.set (dir % 8 % 4).toNat v))) := (TSt.ex e3).lst hl
    exact Tks.set (Tk.to (H := H3) hv ((TSt.refl H3).lst hl)) _ (t2.to ts)
  refine a_ret (R := tx) (ed_tupOfS _ (fun _ _ _ h => h) (ED.s_of_l (ed_lst (l := p) rfl trivial upd_same t3))) fun v H4 e4 hv => q v H4 ?_ hv
  exact (Ex.mut ((e1.trans e2).trans e3) hp).trans e4
def nth (p : P4) : Nat → Int
  | 0 => p.a
  | 1 => p.b
  | 2 => p.c
  | _ => p.d
theorem posL_get (p : P4) : ∀ i, i < 4 → (posL p).getD i .none = .num (nth p i)
  | 0, _ => rfl
  | 1, _ => rfl
  | 2, _ => rfl
  | 3, _ => rfl
theorem posL_len (p : P4) : (posL p).length = 4 := rfl
theorem ok_moved (T : Tx w K mg d) : FnOk P w K mg base CX0 1 (d.f 1) (d.fd 1) ["position", "other"] (spK K fMoved) := by
  have nd := sc_moved.nd
  refine T.moved.fn.ok sc_moved (fun vs H Q E h => len_of (fun ks k ⟨_, _, e, _⟩ => by rw [e]; rfl) h) (fun cdv A outer s H vs Q E hr h => ?_)
  obtain ⟨_, _, ⟨x, y, rfl, rfl⟩, ht, q⟩ := h
  obtain ⟨v1, v2, rfl, h1, h2⟩ := tks2 ht
  refine ⟨_, (pss_one (ps_ret (pe_callTy call_tuple_of (by rfl) T.tuple PyProof.Rows.boot_tuple (pa_cons (pe_lc (own := [("one", 2), ("two", 3)]) (g := gTup K 2 (gCons (gName 2) (gCons (gName 3) gNil))) (tt := tYes) rfl nd (RZ.pi_zipA (by rfl) T.zip (pa_cons (pv 0) (pa_cons (pv 1) pa_nil))) (blkOk_by (N := ["position", "other", "one", "two"]) (sc := defScope s_moved) (by decide +kernel)) (fun _ _ _ _ _ => (pg_tup rfl (pgs_cons (pg_name (i := 2) nd rfl (.inl rfl) (.inr rfl)) (pgs_cons (pg_name (i := 3) nd rfl (.inl rfl) (.inr rfl)) pgs_nil)))) (fun _ _ _ _ _ => pts_nil) (fun _ _ _ _ _ => (pe_op op_add (pv 2) (pv 3)))) pa_nil)))), ?_⟩
  have hi := ei_zipT (Re := tx) (R := tx) (K := K) (σ := start ["position", "other", "one", "two"] [v1, v2]) (H := H) (ks := posL x) (js := posL y) (ea_cons (ed_key (k := posK x) (n := 0) rfl h1) (ea_one (ed_key (k := posK y) (n := 1) rfl h2))) rfl
  refine a_ret (R := tx) (ed_tupOf _ (fun _ _ _ h => h) (el_lcA (K := K) (fun i => .num (nth x i + nth y i)) hi (by rw [posL_len]; decide) fun i v H1 hlt e1 hv Q1 k1 => ?_)) fun v H4 e4 hv => q v H4 e4 hv
  have hlt : i < 4 := hlt
  rw [posL_get x i hlt, posL_get y i hlt] at hv
  obtain ⟨a, xs, rfl, hx, tx2⟩ := pT hv
  obtain ⟨w1, w2, rfl, g1, g2⟩ := tks2 tx2
  rw [tk_num.mp g1, tk_num.mp g2] at hx
  refine ⟨a, _, rfl, hx.sq, rfl, _, _, rfl, _, _, rfl, rfl, k1 _ _ rfl (Ex.refl _) (ed_add (ed_num rfl) (ed_num rfl))⟩
end
end Mk
set_option Elab.async false
set_option linter.all false
set_option maxRecDepth 100000
set_option maxHeartbeats 400000
/-! poses: turned, laid, back; ends_of -/
namespace Mk
open PySem PySem.Spec PyProof.Rows L2 Evl
def tsum (x : P4) (e : Int) : Nat → P4
  | 0 => P4.nul
  | i + 1 => (tsum x e i).add (unit ((i : Nat) + e) (nth x i))
theorem tsum4 (x : P4) (e : Int) : tsum x e 4 = rot e x := rot_sum e x
theorem back_math (p : P5) : poseK (laid p back0) = .tup (posL p.p ++ [.num ((p.h + 4) % 8)]) := by
  have e : laid p back0 = ⟨p.p, (p.h + 4) % 8⟩ := by
    refine P5.eq ?_ rfl
    show p.p.add (rot p.h P4.nul) = p.p
    rw [rot_nul, add_nul]
  rw [e]
  rfl
theorem laid_math (m e : P5) : poseK (laid m e) = .tup (posL (m.p.add (rot m.h e.p)) ++ [.num ((m.h + e.h) % 8)]) := rfl
def pL (p : P5) : List NestedKey := [.num p.p.a, .num p.p.b, .num p.p.c, .num p.p.d, .num p.h]
theorem range_getD {α β : Type} {l : List α} {d : α} {f : α → β} : (List.range l.length).map (fun i => f (l.getD i d)) = l.map f := by
  refine List.ext_getElem? fun i => ?_
  rw [List.getElem?_map, List.getElem?_map]
  by_cases hi : i < l.length
  · rw [List.getElem?_range hi, get_lt (d := d) hi]
    rfl
  · rw [List.getElem?_eq_none (by rw [List.length_range]; omega), List.getElem?_eq_none (by omega)]
    rfl
theorem getD_map {α : Type} {l : List α} {d : α} {f : α → NestedKey} {i : Nat} (hi : i < l.length) : (l.map f).getD i .none = f (l.getD i d) := by
  rw [List.getD_eq_getElem?_getD, List.getElem?_map, get_lt (d := d) hi]
  rfl
section
variable {R : Tr} {K : PySem.W.Frag} {σ : L2.St} {H : Hp} {ta tb : TE}
/-- pose[:4] -/
theorem ed_pos {p : P5} (h : ED R ta σ H (dK R K (poseK p))) : ED R (tSl (rSlT K) ta tNoPart (tPart (tC (.int 4)))) σ H (dK R K (posK p.p)) := ed_slT (K := K) (ks := pL p) (n := 4) (by show 4 < 5; decide) h ed_int
/-- pose[4] -/
theorem ed_hd {p : P5} (h : ED R ta σ H (dK R K (poseK p))) : ED R (tOp (rIx K) ta (tC (.int 4))) σ H (dK R K (.num p.h)) := ed_ixT (K := K) (ks := pL p) (i := 4) rfl h ed_int
/-- a position and a heading -/
theorem ed_pose {p : P4} {n : Int} {k : NestedKey} (hk : k = .tup (posL p ++ [.num n])) (h : ED R ta σ H (dK R K (posK p))) (h2 : ED R tb σ H (dK R K (.num n))) : ED R (tOp (rCatT K) ta (tTup (tCons tb tNil))) σ H (dK R K k) := by
  rw [hk]
  exact ed_catT (by simp [posL]) (by show 4 + 1 ≤ 100000; decide) h (ed_tup [.num n] (ea_one h2) (by show 1 ≤ 100000; decide))
end
section
variable {P : Program} {w : World} {K : PySem.W.Frag} {mg : Str → Option Value} {base : Heap} {d : Da}
theorem ok_turned (T : Tx w K mg d) : FnOk P w K mg base CX0 2 (d.f 2) (d.fd 2) ["position", "eighths"] (spK K fTurned) := by
  have nd := sc_turned.nd
  refine T.turned.fn.ok sc_turned (fun vs H Q E h => len_of (fun ks k ⟨_, _, e, _⟩ => by rw [e]; rfl) h) (fun cdv A outer s H vs Q E hr h => ?_)
  obtain ⟨_, _, ⟨x, e, rfl, rfl⟩, ht, q⟩ := h
  obtain ⟨v1, v2, rfl, h1, h2⟩ := tks2 ht
  rw [tk_num.mp h2]
  refine ⟨_, (pss_cons (ps_set (i := 2) nd rfl (.inl rfl) (pe_glob (by rfl) T.NOWHERE T.rNOWHERE))
      (pss_cons (ps_for PassesOwn.never rfl (pi_enumT (by rfl) T.enumerate (pa_cons (pv 0) pa_nil)) (pg_tup rfl (pgs_cons (pg_name (i := 3) nd rfl (.inl rfl)) (pgs_cons (pg_name (i := 4) nd rfl (.inl rfl)) pgs_nil))) (pss_one (ps_set (i := 2) nd rfl (.inl rfl) (pc T.moved (ok_moved T) (hr.mono (by decide)) (pa_cons (pv 2) (pa_cons (pc T.step (ok_step T) (hr.mono (by decide)) (pa_cons (pe_op op_add (pv 3) (pv 1)) (pa_cons (pv 4) pa_nil))) pa_nil))))))
      (pss_one (ps_ret (pv 2))))), ?_⟩
  refine a_set (R := tx) (d := dK tx K (posK P4.nul)) (ed_c (T.kNOWHERE _)) fun v H1 e1 hv => ?_
  refine a_forS (Re := tx) (R := tx) (ei_enumT (K := K) (ks := posL x) (ea_one (ed_key (k := posK x) (n := 0) rfl (h1.ex e1)))) (fun _ e => e)
    (fun i σ H => ∃ v y3 y4, σ = [some v1, some (.int e), some v, y3, y4] ∧ Tk K H (posK (tsum x e i)) v) (fun H2 e2 => ⟨v, none, none, rfl, Tk.ex hv e2⟩) (fun Hb eb i y σ' H' H2 hi e2 hP e3 hy => ?_) fun σ' H' e2 hP => ?_
  · obtain ⟨u, y3, y4, rfl, hu⟩ := hP
    rw [posL_get x i hi] at hy
    obtain ⟨a, xs, rfl, hx, tx2⟩ := pT hy
    obtain ⟨w1, w2, rfl, g1, g2⟩ := tks2 tx2
    rw [tk_num.mp g1, tk_num.mp g2] at hx
    refine ⟨a, _, rfl, hx.sq, rfl, _, _, rfl, _, _, rfl, rfl, ?_⟩
    refine a_last (R := tx) (d := dK tx K (posK (tsum x e (i + 1)))) (ed_callK [posK (tsum x e i), posK (unit ((i : Nat) + e) (nth x i))] ⟨_, _, rfl, rfl⟩ (ea_cons (ed_key rfl (hu.ex e3))
      (ea_one (ed_callK [.num ((i : Nat) + e), .num (nth x i)] ⟨_, _, rfl, rfl⟩ (ea_cons (ed_add (ed_num rfl) (ed_num rfl)) (ea_one (ed_num rfl))))))) fun v H4 e4 hv => ?_
    exact ⟨(e2.trans e3).trans e4, v, _, _, rfl, hv⟩
  · obtain ⟨u, y3, y4, rfl, hu⟩ := hP
    have hu : Tk K H' (posK (tsum x e 4)) u := hu
    rw [tsum4] at hu
    exact a_ret (R := tx) (ed_key (n := 2) rfl hu) fun v H4 e4 hv => q v H4 ((e1.trans e2).trans e4) hv
theorem ok_laid (T : Tx w K mg d) : FnOk P w K mg base CX0 3 (d.f 3) (d.fd 3) ["pose", "other"] (spK K fLaid) := by
  have nd := sc_laid.nd
  refine T.laid.fn.ok sc_laid (fun vs H Q E h => len_of (fun ks k ⟨_, _, e, _⟩ => by rw [e]; rfl) h) (fun cdv A outer s H vs Q E hr h => ?_)
  obtain ⟨_, _, ⟨m, e, rfl, rfl⟩, ht, q⟩ := h
  obtain ⟨v1, v2, rfl, h1, h2⟩ := tks2 ht
  refine ⟨_, (pss_one (ps_ret (pe_op op_catT (pc T.moved (ok_moved T) (hr.mono (by decide)) (pa_cons (pe_slice sl_tup (pv 0) po_none (po_some pe_int)) (pa_cons (pc T.turned (ok_turned T) (hr.mono (by decide)) (pa_cons (pe_slice sl_tup (pv 1) po_none (po_some pe_int)) (pa_cons (pe_ix ix_seq (pv 0) pe_int (fun _ _ => rfl)) pa_nil))) pa_nil))) (pe_tup (pa_cons (pe_op op_mod (pe_op op_add (pe_ix ix_seq (pv 0) pe_int (fun _ _ => rfl)) (pe_ix ix_seq (pv 1) pe_int (fun _ _ => rfl))) (pe_glob (by rfl) T.EIGHTHS T.rEIGHTHS)) pa_nil))))), ?_⟩
  exact a_ret (R := tx) (ed_pose (laid_math m e) (ed_callK [posK m.p, posK (rot m.h e.p)] ⟨_, _, rfl, rfl⟩ (ea_cons (ed_pos (ed_key rfl h1)) (ea_one (ed_callK [posK e.p, .num m.h] ⟨_, _, rfl, rfl⟩ (ea_cons (ed_pos (ed_key rfl h2)) (ea_one (ed_hd (ed_key rfl h1))))))))
    (ed_mod (by decide) (ed_add (ed_hd (ed_key rfl h1)) (ed_hd (ed_key rfl h2))) ed_int)) fun v H4 e4 hv => q v H4 e4 hv
theorem ok_back (T : Tx w K mg d) : FnOk P w K mg base CX0 1 (d.f 4) (d.fd 4) ["pose"] (spK K fBack) := by
  have nd := sc_back.nd
  refine T.back.fn.ok sc_back (fun vs H Q E h => len_of (fun ks k ⟨_, e, _⟩ => by rw [e]; rfl) h) (fun cdv A outer s H vs Q E hr h => ?_)
  obtain ⟨_, _, ⟨p, rfl, rfl⟩, ht, q⟩ := h
  obtain ⟨v1, rfl, h1⟩ := tks1 ht
  refine ⟨_, (pss_one (ps_ret (pe_op op_catT (pe_slice sl_tup (pv 0) po_none (po_some pe_int)) (pe_tup (pa_cons (pe_op op_mod (pe_op op_add (pe_ix ix_seq (pv 0) pe_int (fun _ _ => rfl)) (pe_glob (by rfl) T.HALF T.rHALF)) (pe_glob (by rfl) T.EIGHTHS T.rEIGHTHS)) pa_nil))))), ?_⟩
  exact a_ret (R := tx) (ed_pose (back_math p) (ed_pos (ed_key rfl h1)) (ed_mod (by decide) (ed_add (ed_hd (ed_key rfl h1)) ed_int) ed_int)) fun v H4 e4 hv => q v H4 e4 hv
def fEndsOf (ks : List NestedKey) (k : NestedKey) : Prop := ∃ (c : Kd) (p : P5), ks = [.text c.str, poseK p] ∧ k = .tup ((endsOf c p).map poseK)
theorem others_len (c : Kd) : (others c).length ≤ 3 := by cases c <;> decide
theorem ok_ends_of (T : Tx w K mg d) : FnOk P w K mg base CX0 4 (d.f 5) (d.fd 5) ["kind", "pose"] (spK K fEndsOf) := by
  have nd := sc_ends_of.nd
  refine T.ends_of.fn.ok sc_ends_of (fun vs H Q E h => len_of (fun ks k ⟨_, _, e, _⟩ => by rw [e]; rfl) h) (fun cdv A outer s H vs Q E hr h => ?_)
  obtain ⟨_, _, ⟨c, p, rfl, rfl⟩, ht, q⟩ := h
  obtain ⟨v1, v2, rfl, h1, h2⟩ := tks2 ht
  rw [tk_text.mp h1]
  refine ⟨_, (pss_cons (ps_set (i := 2) nd rfl (.inl rfl) (pe_op op_catT (pe_tup (pa_cons (pc T.back (ok_back T) (hr.mono (by decide)) (pa_cons (pe_glob (by rfl) T.HOME T.rHOME) pa_nil)) pa_nil)) (pe_ix ix_kdict (pe_glob (by rfl) T.OTHER_ENDS T.rOTHER_ENDS) (pv 0) (fun _ _ => rfl))))
      (pss_one (ps_ret (pe_callTy call_tuple_of (by rfl) T.tuple PyProof.Rows.boot_tuple (pa_cons (pe_lc (own := [("end", 3)]) (g := gName 3) (tt := tYes) rfl nd (pi_tup (pv 2)) (blkOk_by (N := ["kind", "pose", "ends", "end"]) (sc := defScope s_ends_of) (by decide +kernel)) (fun _ _ _ _ _ => (pg_name (i := 3) nd rfl (.inl rfl) (.inr rfl))) (fun _ _ _ _ _ => pts_nil) (fun _ _ _ _ _ => (pc T.laid (ok_laid T) (hr.mono (by decide)) (pa_cons (pv 1) (pa_cons (pv 3) pa_nil))))) pa_nil))))), ?_⟩
  obtain ⟨vo, kd, ko⟩ := T.kOTHER c
  refine a_set (R := tx) (d := dK tx K (.tup ([poseK back0] ++ (others c).map poseK))) (ed_catT (by simp) (by have := others_len c; rw [List.length_map, List.length_singleton]; omega)
    (ed_tup [poseK back0] (ea_one (ed_callK [poseK home] ⟨home, rfl, rfl⟩ (ea_one (ed_c (d := dK tx K (poseK home)) (T.kHOME _))))) (by decide))
    (ed_op (d1 := dV tx (.ref d.oth)) (d2 := dK tx K (.text c.str)) (ed_c rfl) (ed_txt rfl) fun x y H1 _ hx hy Q1 k1 => ⟨d.oth, c.str, vo, hx, pX hy, kd, k1 vo H1 (Ex.refl _) (ko H1)⟩)) fun v H1 e1 hv => ?_
  have e2 : [poseK back0] ++ (others c).map poseK = (back0 :: others c).map poseK := rfl
  rw [e2] at hv
  have hl : ((back0 :: others c).map poseK).length ≤ 4 := by have := others_len c; rw [List.length_map, List.length_cons]; omega
  have hr2 : (List.range ((back0 :: others c).map poseK).length).map (fun i => poseK (laid p ((back0 :: others c).getD i home))) = (endsOf c p).map poseK := by
    unfold endsOf
    rw [List.map_map, List.length_map]
    exact range_getD (f := fun e => poseK (laid p e))
  refine a_ret (R := tx) (ed_tupOf _ (fun _ _ _ h => h) (el_lcA (K := K) (fun i => poseK (laid p ((back0 :: others c).getD i home))) (ei_tup (ed_key (n := 2) rfl hv)) (by omega) fun i v H2 hlt e3 hv2 Q1 k1 => ?_)) fun v H4 e4 hv3 => q v H4 (e1.trans e4) (by rw [← hr2]; exact hv3)
  rw [List.length_map] at hlt
  have e5 := getD_map (d := home) (f := poseK) hlt
  rw [e5] at hv2
  exact k1 _ _ rfl (Ex.refl _) (ed_callK [poseK p, poseK ((back0 :: others c).getD i home)] ⟨_, _, rfl, rfl⟩ (ea_cons (ed_key rfl (h2.ex (e1.trans e3))) (ea_one (ed_key rfl hv2))))
end
end Mk
set_option Elab.async false
set_option linter.all false
set_option maxRecDepth 100000
set_option maxHeartbeats 400000
/-! layouts and motions of the program: all_ends, shape, shapes, motion_between -/
namespace Mk
open PySem PySem.Spec PyProof.Rows L2 Evl
def pieceK (p : Piece) : NestedKey := .tup [.text p.1.str, poseK p.2]
def itemK : Option Piece → NestedKey
  | none => .none
  | some p => pieceK p
def endT (n : Nat) (es : List P5) : List (Nat × Nat × P5) := (List.range es.length).map fun k => (n, k, es.getD k home)
def allT (q : List (Piece × Nat)) : List (Nat × Nat × P5) := q.flatMap fun x => endT x.2 (endsOf x.1.1 x.1.2)
def aeK (t : Nat × Nat × P5) : NestedKey := .tup [.num t.1, .num t.2.1, poseK t.2.2]
theorem endT_end (n : Nat) (es : List P5) : (endT n es).map (·.2.2) = es := by
  unfold endT
  rw [List.map_map]
  have := range_getD (l := es) (d := home) (f := fun e => e)
  rw [List.map_id'] at this
  exact this
theorem allT_ends : ∀ q : List (Piece × Nat), (allT q).map (·.2.2) = (q.map (·.1)).flatMap fun p => endsOf p.1 p.2
  | [] => rfl
  | x :: q => by
    show (endT x.2 (endsOf x.1.1 x.1.2) ++ allT q).map (·.2.2) = _
    rw [List.map_append, endT_end, allT_ends q]
    rfl
theorem allT_eps (L : Lay) : (allT (numd 0 L)).map (·.2.2) = eps L := by
  rw [allT_ends, numd_fst]
  rfl
theorem allT_app (a b : List (Piece × Nat)) : allT (a ++ b) = allT a ++ allT b := List.flatMap_append
theorem endT_len (n : Nat) (c : Kd) (p : P5) : (endT n (endsOf c p)).length ≤ 4 := by
  unfold endT
  rw [List.length_map, List.length_range]
  exact endsOf_len c p
theorem allT_len : ∀ q : List (Piece × Nat), (allT q).length ≤ 4 * q.length
  | [] => Nat.le_refl _
  | x :: q => by
    show (endT x.2 (endsOf x.1.1 x.1.2) ++ allT q).length ≤ _
    have h1 := endT_len x.2 x.1.1 x.1.2
    have h2 := allT_len q
    rw [List.length_append, List.length_cons]
    omega
theorem numd_len : ∀ (n : Nat) (L : Lay), (numd n L).length ≤ L.length
  | _, [] => Nat.le_refl _
  | n, none :: L => Nat.le_succ_of_le (numd_len (n + 1) L)
  | n, some p :: L => Nat.succ_le_succ (numd_len (n + 1) L)
theorem eps_len (L : Lay) : (eps L).length ≤ 4 * L.length := by
  rw [← allT_eps, List.length_map]
  have h1 := allT_len (numd 0 L)
  have h2 := numd_len 0 L
  omega
theorem numd_take {L : Lay} {i : Nat} {o : Option Piece} (h : L[i]? = some o) : numd 0 (L.take (i + 1)) = numd 0 (L.take i) ++ numd i [o] := by
  have hi : i < L.length := (List.getElem?_eq_some_iff.mp h).1
  rw [List.take_add_one, h, numd_app]
  congr 2
  rw [List.length_take]
  omega
theorem item_at {L : Lay} {i : Nat} (hi : i < L.length) : ∃ o, L[i]? = some o ∧ (L.map itemK).getD i .none = itemK o := by
  refine ⟨L[i], List.getElem?_eq_getElem hi, ?_⟩
  rw [List.getD_eq_getElem?_getD, List.getElem?_map, List.getElem?_eq_getElem hi]
  rfl
theorem endT_take (n : Nat) (es : List P5) {k : Nat} (hk : k < es.length) : (endT n es).take (k + 1) = (endT n es).take k ++ [(n, k, es.getD k home)] := by
  unfold endT
  rw [← List.map_take, ← List.map_take, List.take_range, List.take_range, Nat.min_eq_left (by omega), Nat.min_eq_left (by omega), List.range_succ, List.map_append]
  rfl
theorem poseK_nice (p : P5) : Nice (poseK p) := by
  refine nice_tup fun k hk => ?_
  simp only [List.mem_cons, List.not_mem_nil, or_false] at hk
  rcases hk with rfl | rfl | rfl | rfl | rfl <;> simp [NestedKey.data, PyData.canLay0, PyData.depth]
def fAllEnds (ks : List NestedKey) (k : NestedKey) : Prop := ∃ L : Lay, L.length ≤ 1000 ∧ ks = [.tup (L.map itemK)] ∧ k = .tup ((allT (numd 0 L)).map aeK)
section
variable {P : Program} {w : World} {K : PySem.W.Frag} {mg : Str → Option Value} {base : Heap} {d : Da}
theorem ok_all_ends (T : Tx w K mg d) : FnOk P w K mg base CX0 5 (d.f 6) (d.fd 6) ["layout"] (spK K fAllEnds) := by
  have nd := sc_all_ends.nd
  refine T.all_ends.fn.ok sc_all_ends (fun vs H Q E h => len_of (fun ks k ⟨_, _, e, _⟩ => by rw [e]; rfl) h) (fun cdv A outer s H vs Q E hr h => ?_)
  obtain ⟨_, _, ⟨L, hL, rfl, rfl⟩, ht, q⟩ := h
  obtain ⟨v1, rfl, h1⟩ := tks1 ht
  refine ⟨_, (pss_cons (ps_set (i := 1) nd rfl (.inl rfl) (pe_lst pa_nil))
      (pss_cons (ps_for PassesOwn.never rfl (pi_enumT (by rfl) T.enumerate (pa_cons (pv 0) pa_nil)) (pg_tup rfl (pgs_cons (pg_name (i := 2) nd rfl (.inl rfl)) (pgs_cons (pg_name (i := 3) nd rfl (.inl rfl)) pgs_nil))) (pss_one (ps_if (pt_cmpR op_notN1 (pv 3) pe_non (nomark _)) (pss_one (ps_for PassesOwn.never rfl (pi_enumT (by rfl) T.enumerate (pa_cons (pc T.ends_of (ok_ends_of T) (hr.mono (by decide)) (pa_cons (pe_ix ix_seq (pv 3) pe_int (fun _ _ => rfl)) (pa_cons (pe_ix ix_seq (pv 3) pe_int (fun _ _ => rfl)) pa_nil))) pa_nil)) (pg_tup rfl (pgs_cons (pg_name (i := 4) nd rfl (.inl rfl)) (pgs_cons (pg_name (i := 5) nd rfl (.inl rfl)) pgs_nil))) (pss_one (ps_expr (pe_bm PySem.F.plainAttrs_list PySem.F.slot_list_append PySem.F.type_list_append mt_append (pv 1) (pa_cons (pe_tup (pa_cons (pv 2) (pa_cons (pv 4) (pa_cons (pv 5) pa_nil)))) pa_nil)))))) pss_nil)))
      (pss_one (ps_ret (pe_callTy call_tuple_of (by rfl) T.tuple PyProof.Rows.boot_tuple (pa_cons (pv 1) pa_nil)))))), ?_⟩
  refine a_setL (R := tx) (el_lst (K := K) [] ea_nil (by decide)) fun l xs0 H1 hl e1 hx t1 => ?_
  refine a_forS (Re := tx) (R := tE l) (ei_enumT (K := K) (ks := L.map itemK) (ea_one (ed_key (n := 0) rfl (h1.ex e1)))) (fun _ e => (tE l).ex e)
    (fun i σ H => ∃ y2 y3 y4 y5 xs, σ = [some v1, some (.ref l), y2, y3, y4, y5] ∧ H l = some (.lst xs) ∧ Tks K H ((allT (numd 0 (L.take i))).map aeK) xs)
    (fun H2 e2 => ⟨none, none, none, none, xs0, rfl, e2 _ _ hx, t1.ex e2⟩) (fun Hb eb i y σ' H' H2 hi e2 hP e3 hy => ?_) fun σ' H' e2 hP => ?_
  · obtain ⟨y2, y3, y4, y5, xs, rfl, hx', ht'⟩ := hP
    rw [List.length_map] at hi
    obtain ⟨o, ho, eo⟩ := item_at hi
    rw [eo] at hy
    obtain ⟨a, ys, rfl, hy1, ty⟩ := pT hy
    obtain ⟨w1, w2, rfl, g1, g2⟩ := tks2 ty
    rw [tk_num.mp g1] at hy1
    have hnb : Ex H1 H2 → True := fun _ => trivial
    refine ⟨a, _, rfl, hy1.sq, rfl, _, _, rfl, _, _, rfl, rfl, ?_⟩
    refine a_if (R := tx) (et_v (ed_notN (K := K) (k := itemK o) (ed_key (n := 3) rfl g2) ed_non)) (fun hb H3 e4 => ?_) (fun hb H3 e4 => ?_)
    · cases o with
      | none => simp [itemK] at hb
      | some p =>
        obtain ⟨c, po⟩ := p
        have hl3 := (e3.trans e4) _ _ hx'
        have g3 := g2.ex e4
        have ei := ei_enumT (Re := tx) (R := tE l) (K := K) (H := H3) (ks := (endsOf c po).map poseK) (ta := tCons (tCall (spK K fEndsOf) [] E0 (tCons (tOp (rIx K) (tVar 3) (tC (.int 0))) (tCons (tOp (rIx K) (tVar 3) (tC (.int 1))) tNil))) tNil)
          (σ := [some v1, some (.ref l), some (.int (i : Nat)), some w2, y4, y5]) (ea_one (ed_callK [.text c.str, poseK po] ⟨_, _, rfl, rfl⟩ (ea_cons (ed_ixT (ks := [.text c.str, poseK po]) (i := 0) rfl (ed_key (n := 3) rfl g3) ed_int) (ea_one (ed_ixT (ks := [.text c.str, poseK po]) (i := 1) rfl (ed_key (n := 3) rfl g3) ed_int)))))
        refine a_for (Re := tx) (R := tE l) ei (fun _ e => (tE l).ex e)
          (fun k σ H => ∃ y4 y5 xs, σ = [some v1, some (.ref l), some (.int (i : Nat)), some w2, y4, y5] ∧ H l = some (.lst xs) ∧ Tks K H ((allT (numd 0 (L.take i)) ++ (endT i (endsOf c po)).take k).map aeK) xs)
          (fun H4 e5 => ⟨y4, y5, xs, rfl, e5 _ _ hl3, by rw [List.take_zero, List.append_nil]; exact ht'.ex ((e3.trans e4).trans e5)⟩) (fun Hc ec k y σ' H5 H6 hk e5 hP e6 hy => ?_) fun σ' H5 e5 hP => ?_
        · obtain ⟨z4, z5, zs, rfl, hz, hzt⟩ := hP
          rw [List.length_map] at hk
          rw [getD_map (d := home) (f := poseK) hk] at hy
          obtain ⟨a2, ys2, rfl, hy2, ty2⟩ := pT hy
          obtain ⟨u1, u2, rfl, f1, f2⟩ := tks2 ty2
          rw [tk_num.mp f1] at hy2
          refine ⟨a2, _, rfl, hy2.sq, rfl, _, _, rfl, _, _, rfl, rfl, ?_⟩
          refine a_app (R := tx) (K := K) (d := dK tx K (aeK (i, k, (endsOf c po).getD k home))) (e6 _ _ hz) trivial (ed_ref (n := 1) rfl) (ed_tup [.num (i : Nat), .num (k : Nat), poseK ((endsOf c po).getD k home)] (ea_cons (ed_num rfl) (ea_cons (ed_num rfl) (ea_one (ed_key (n := 5) rfl f2)))) (by show 3 ≤ 100000; decide)) ?_ fun v H7 e7 hv hl7 => ?_
          · have h1 := allT_len (numd 0 (L.take i))
            have h2 := numd_len 0 (L.take i)
            have h3 := endT_len i c po
            rw [hzt.len, List.length_map, List.length_append, List.length_take]
            rw [List.length_take] at h2
            omega
          · have ts : TSt H7 (upd H7 l (.lst (zs ++ [v]))) := (TSt.refl H7).lst hl7
            refine ⟨tE_upd ((tE l).trans e5 ((tE l).ex (e6.trans e7))) hl7, _, _, zs ++ [v], rfl, upd_same, ?_⟩
            rw [endT_take i _ hk, ← List.append_assoc, List.map_append]
            exact ((hzt.ex (e6.trans e7)).to ts).snoc (Tk.to hv ts)
        · obtain ⟨z4, z5, zs, rfl, hz, hzt⟩ := hP
          refine ⟨(tE l).trans e2 ((tE l).trans ((tE l).ex (e3.trans e4)) e5), _, _, _, _, zs, rfl, hz, ?_⟩
          rw [numd_take ho, allT_app]
          have e9 : (endT i (endsOf c po)).take ((endsOf c po).map poseK).length = allT (numd i [some (c, po)]) := by
            rw [List.take_of_length_le (by unfold endT; simp)]
            show _ = endT i (endsOf c po) ++ []
            rw [List.append_nil]
          rw [← e9]
          exact hzt
    · cases o with
      | some p => simp [itemK, pieceK] at hb
      | none =>
        refine ⟨(tE l).trans e2 ((tE l).ex (e3.trans e4)), _, _, _, _, xs, rfl, (e3.trans e4) _ _ hx', ?_⟩
        rw [numd_take ho]
        show Tks K H3 ((allT (numd 0 (L.take i) ++ [])).map aeK) xs
        rw [List.append_nil]
        exact ht'.ex (e3.trans e4)
  · obtain ⟨y2, y3, y4, y5, xs, rfl, hx', ht'⟩ := hP
    rw [List.length_map, List.take_length] at ht'
    exact a_ret (R := tx) (ed_tupOfS _ (fun _ _ _ h => h) (ED.s_of_l (ed_lst (n := 1) rfl trivial hx' ht'))) fun v H4 e4 hv => q v H4 ((ex_of_tE hl e1 e2).trans e4) hv
end
end Mk
set_option Elab.async false
set_option linter.all false
set_option maxRecDepth 100000
set_option maxHeartbeats 400000
/-! shape, shapes, motion_between -/
namespace Mk
open PySem PySem.Spec PyProof.Rows L2 Evl
theorem depth_pose (p : P5) : (poseK p).data.depth = 1 := by simp [poseK, NestedKey.data, NestedKey.datas, PyData.depth, PyData.depthAll]
theorem depth_tup {n : Nat} {ks : List NestedKey} (h : ∀ k ∈ ks, k.data.depth ≤ n) : (NestedKey.tup ks).data.depth ≤ n + 1 := by
  have := depth_keys h
  simp only [NestedKey.data, PyData.depth]
  omega
theorem sorty_poses {es : List P5} (h : es.length ≤ 1000) : Sorty (es.map poseK) := by
  refine ⟨alike_poses es, fun k hk => ?_, fun k hk => ?_, by rw [List.length_map]; exact h⟩
  · obtain ⟨p, _, rfl⟩ := List.mem_map.mp hk
    exact ⟨_, _, rfl⟩
  · obtain ⟨p, _, rfl⟩ := List.mem_map.mp hk
    rw [depth_pose]
    decide
theorem depth_shp (c : Kd) (es : List P5) : (shp c es).data.depth ≤ 3 := by
  refine depth_tup (n := 2) fun k hk => ?_
  simp only [List.mem_cons, List.not_mem_nil, or_false] at hk
  rcases hk with rfl | rfl
  · simp [NestedKey.data, PyData.depth]
  · refine depth_tup (n := 1) fun k hk => ?_
    obtain ⟨p, _, rfl⟩ := List.mem_map.mp (mem_ksort.mp hk)
    rw [depth_pose]
    decide
theorem keyDepth_all {n : Nat} : ∀ {ks : List NestedKey}, (∀ k ∈ ks, k.depth ≤ n) → NestedKey.depthAll ks ≤ n
  | [], _ => Nat.zero_le _
  | k :: ks, h => by
    have h1 := h k List.mem_cons_self
    have h2 := keyDepth_all (n := n) (ks := ks) fun k hk => h k (List.mem_cons_of_mem _ hk)
    simp only [NestedKey.depthAll]
    omega
theorem keyDepth_tup {n : Nat} {ks : List NestedKey} (h : ∀ k ∈ ks, k.depth ≤ n) : (NestedKey.tup ks).depth ≤ n + 1 := by
  have := keyDepth_all h
  simp only [NestedKey.depth]
  omega
theorem keyDepth_pose (p : P5) : (poseK p).depth = 1 := by simp [poseK, NestedKey.depth, NestedKey.depthAll]
theorem keyDepth_shp (c : Kd) (es : List P5) : (shp c es).depth ≤ 8 := by
  refine Nat.le_trans (keyDepth_tup (n := 2) fun k hk => ?_) (by decide)
  simp only [List.mem_cons, List.not_mem_nil, or_false] at hk
  rcases hk with rfl | rfl
  · simp [NestedKey.depth]
  · refine keyDepth_tup (n := 1) fun k hk => ?_
    obtain ⟨p, _, rfl⟩ := List.mem_map.mp (mem_ksort.mp hk)
    rw [keyDepth_pose]
    decide
theorem keyDepth_hm (m : P5) : (hmK m).depth ≤ 8 := by simp [hmK, poseK, NestedKey.depth, NestedKey.depthAll]
theorem kd_ok (c : Kd) : (NestedKey.text c.str).data.canLay0 = true := by cases c <;> decide +kernel
theorem shp_nice (c : Kd) (es : List P5) : Nice (shp c es) := by
  refine ⟨?_, by have := depth_shp c es; omega⟩
  have h1 := kd_ok c
  have h2 : PyData.canLayAll0 (NestedKey.datas (ksort (es.map poseK))) = true := lay_keys fun k hk => by
    obtain ⟨p, _, rfl⟩ := List.mem_map.mp (mem_ksort.mp hk)
    exact (poseK_nice p).1
  simp only [shp, NestedKey.data, NestedKey.datas, PyData.canLay0, PyData.canLayAll0, h2, Bool.and_true] at h1 ⊢
  exact h1
theorem sorty_shapes {m : P5} {l : List Piece} (h : l.length ≤ 1000) : Sorty (l.map (shapeK m)) := by
  refine ⟨alike_shapes m l, fun k hk => ?_, fun k hk => ?_, by rw [List.length_map]; exact h⟩
  · obtain ⟨p, _, rfl⟩ := List.mem_map.mp hk
    exact ⟨_, _, rfl⟩
  · obtain ⟨p, _, rfl⟩ := List.mem_map.mp hk
    have := depth_shp p.1 ((endsOf p.1 p.2).map (laid m))
    show (shp _ _).data.depth ≤ 8
    omega
theorem pcs_len (L : Lay) : (pcs L).length ≤ L.length := by
  rw [← numd_fst 0 L, List.length_map]
  exact numd_len 0 L
def shV (m : P5) (L : Lay) : List (NestedKey × V) := (shapesL m L).map fun x => (x.1, V.int (x.2 : Nat))
theorem shV_fst (m : P5) (L : Lay) : (shV m L).map (·.1) = (pcs L).map (shapeK m) := by
  rw [← shapesL_fst]
  unfold shV
  rw [List.map_map]
  rfl
theorem shV_len (m : P5) (L : Lay) : (shV m L).length ≤ L.length := by
  unfold shV shapesL
  rw [List.length_map, List.length_map]
  exact numd_len 0 L
theorem shV_take {m : P5} {L : Lay} {i : Nat} {o : Option Piece} (h : L[i]? = some o) : shV m (L.take (i + 1)) = shV m (L.take i) ++ ((numd i [o]).map fun q => (shapeK m q.1, V.int (q.2 : Nat))) := by
  unfold shV shapesL
  rw [numd_take h, List.map_append, List.map_append]
  congr 1
  rw [List.map_map]
  rfl
theorem pcs_app (L M : Lay) : pcs (L ++ M) = pcs L ++ pcs M := List.filterMap_append
theorem shV_new {m : P5} {L : Lay} (hL : Free L) {i : Nat} {p : Piece} (h : L[i]? = some (some p)) : shapeK m p ∉ (shV m (L.take i)).map (·.1) := by
  have h1 := shapes_nodup hL m
  have h2 : L = L.take i ++ (some p :: L.drop (i + 1)) := by
    have hi : i < L.length := (List.getElem?_eq_some_iff.mp h).1
    have h3 := (List.take_append_drop i L).symm
    rw [List.drop_eq_getElem_cons hi] at h3
    rw [(List.getElem?_eq_some_iff.mp h).2] at h3
    exact h3
  rw [h2, pcs_app, List.map_append, List.nodup_append] at h1
  rw [shV_fst]
  intro hm
  exact h1.2.2 _ hm (shapeK m p) (List.mem_map.mpr ⟨p, List.mem_cons_self, rfl⟩) rfl
section
variable {K : PySem.W.Frag} {σ : L2.St} {H : Hp} {te : TE} {D : Ends} {tz : TS} {P : Program} {w : World} {k1 k2 : NestedKey} {i j : Nat}
/-- a, b = e -/
theorem a_two (h : ED tx te σ H (dK tx K (.tup [k1, k2]))) (k : ∀ v1 v2 H1, Ex H H1 → Tk K H1 k1 v1 → Tk K H1 k2 v2 → tz D ((σ.set i (some v1)).set j (some v2)) H1) : tSeq (tAsg te (gTup K 2 (gCons (gName i) (gCons (gName j) gNil)))) tz D σ H :=
  h H (Ex.refl H) _ fun v H1 e p => by
    obtain ⟨a, xs, rfl, hx, tx2⟩ := pT p
    obtain ⟨w1, w2, rfl, g1, g2⟩ := tks2 tx2
    exact ⟨a, _, rfl, hx.sq, rfl, _, _, rfl, _, _, rfl, rfl, k w1 w2 H1 e g1 g2⟩
theorem a_setN {kvs : List (NestedKey × V)} (h : EN tx P w K te σ H kvs) (k : ∀ p H1, H p = none → Ex H H1 → ND P w K H1 p kvs → tz D (σ.set i (some (.ref p))) H1) : tSeq (tAsg te (gName i)) tz D σ H :=
  h H (Ex.refl H) _ fun p H1 hp e n => k p H1 hp e n
end
def fShape (ks : List NestedKey) (k : NestedKey) : Prop := ∃ (p : Piece) (m : P5), ks = [pieceK p, poseK m] ∧ k = shapeK m p
def spShapes (P : Program) (w : World) (K : PySem.W.Frag) : Sp := fun vs H Q _ => ∃ (L : Lay) (m : P5), Free L ∧ L.length ≤ 200 ∧ Tks K H [.tup (L.map itemK), poseK m] vs ∧ ∀ dd H', H dd = none → Ex H H' → ND P w K H' dd (shV m L) → Q (.ref dd) H'
def fBetween (ks : List NestedKey) (k : NestedKey) : Prop := ∃ e f : P5, ks = [poseK e, poseK f] ∧ k = poseK (between e f)
section
variable {P : Program} {w : World} {K : PySem.W.Frag} {mg : Str → Option Value} {base : Heap} {d : Da}
theorem ok_shape (T : Tx w K mg d) : FnOk P w K mg base CX0 5 (d.f 7) (d.fd 7) ["piece", "motion"] (spK K fShape) := by
  have nd := sc_shape.nd
  refine T.shape.fn.ok sc_shape (fun vs H Q E h => len_of (fun ks k ⟨_, _, e, _⟩ => by rw [e]; rfl) h) (fun cdv A outer s H vs Q E hr h => ?_)
  obtain ⟨_, _, ⟨⟨c, p⟩, m, rfl, rfl⟩, ht, q⟩ := h
  obtain ⟨v1, v2, rfl, h1, h2⟩ := tks2 ht
  refine ⟨_, (pss_cons (ps_asg (pv 0) (pg_tup rfl (pgs_cons (pg_name (i := 2) nd rfl (.inl rfl)) (pgs_cons (pg_name (i := 3) nd rfl (.inl rfl)) pgs_nil))))
      (pss_one (ps_ret (pe_tup (pa_cons (pv 2) (pa_cons (pe_callTy call_tuple_of (by rfl) T.tuple PyProof.Rows.boot_tuple (pa_cons (pe_callB (cr_sortN hr.units) (by rfl) T.sorted PyProof.Rows.boot_sorted (pa_cons (pe_lc (own := [("end", 4)]) (g := gName 4) (tt := tYes) rfl nd (pi_tup (pc T.ends_of (ok_ends_of T) (hr.mono (by decide)) (pa_cons (pv 2) (pa_cons (pv 3) pa_nil)))) (blkOk_by (N := ["piece", "motion", "kind", "pose", "end"]) (sc := defScope s_shape) (by decide +kernel)) (fun _ _ _ _ _ => (pg_name (i := 4) nd rfl (.inl rfl) (.inr rfl))) (fun _ _ _ _ _ => pts_nil) (fun _ _ _ _ _ => (pc T.laid (ok_laid T) (hr.mono (by decide)) (pa_cons (pv 1) (pa_cons (pv 4) pa_nil))))) pa_nil)) pa_nil)) pa_nil)))))), ?_⟩
  refine a_two (K := K) (k1 := .text c.str) (k2 := poseK p) (ed_key (n := 0) rfl h1) fun u1 u2 H1 e1 g1 g2 => ?_
  have hm : ((endsOf c p).map (laid m)).map poseK = (List.range ((endsOf c p).map poseK).length).map fun i => poseK (laid m ((endsOf c p).getD i home)) := by
    rw [List.map_map, List.length_map]
    exact (range_getD (f := fun e => poseK (laid m e))).symm
  refine a_ret (R := tx) (d := dK tx K (shapeK m (c, p))) (ed_tup [.text c.str, .tup (ksort (((endsOf c p).map (laid m)).map poseK))] (ea_cons (ed_key (n := 2) rfl g1) (ea_one (ed_tupOf _ (fun _ _ _ h => h) (el_sortN ?_ ?_)))) (by show 2 ≤ 100000; decide)) fun v H4 e4 hv => q v H4 (e1.trans e4) hv
  · refine sorty_poses ?_
    rw [List.length_map]
    have := endsOf_len c p
    omega
  · rw [hm]
    refine el_lcA (K := K) (fun i => poseK (laid m ((endsOf c p).getD i home))) (ei_tup (Re := tx) (R := tx) (ks := (endsOf c p).map poseK) (ed_callK [.text c.str, poseK p] ⟨_, _, rfl, rfl⟩ (ea_cons (ed_key rfl g1) (ea_one (ed_key rfl g2))))) (by rw [List.length_map]; have := endsOf_len c p; omega) fun i v H2 hlt e3 hv2 Q1 k1 => ?_
    rw [List.length_map] at hlt
    rw [getD_map (d := home) (f := poseK) hlt] at hv2
    exact k1 _ _ rfl (Ex.refl _) (ed_callK [poseK m, poseK ((endsOf c p).getD i home)] ⟨_, _, rfl, rfl⟩ (ea_cons (ed_key rfl (h2.ex (e1.trans e3))) (ea_one (ed_key rfl hv2))))
theorem ok_shapes (T : Tx w K mg d) : FnOk P w K mg base CX0 6 (d.f 8) (d.fd 8) ["layout", "motion"] (spShapes P w K) := by
  have nd := sc_shapes.nd
  refine T.shapes.fn.ok sc_shapes (fun vs H Q E h => ?_) (fun cdv A outer s H vs Q E hr h => ?_)
  · obtain ⟨L, m, _, _, ht, _⟩ := h
    exact ht.len
  obtain ⟨L, m, hF, hL, ht, q⟩ := h
  obtain ⟨v1, v2, rfl, h1, h2⟩ := tks2 ht
  refine ⟨_, (pss_cons (ps_set (i := 2) nd rfl (.inl rfl) pe_dnewN)
      (pss_cons (ps_for PassesOwn.never rfl (pi_enumT (by rfl) T.enumerate (pa_cons (pv 0) pa_nil)) (pg_tup rfl (pgs_cons (pg_name (i := 3) nd rfl (.inl rfl)) (pgs_cons (pg_name (i := 4) nd rfl (.inl rfl)) pgs_nil))) (pss_one (ps_if (pt_cmpR op_notN1 (pv 4) pe_non (nomark _)) (pss_one (ps_nput hr.units (pv 2) (pc T.shape (ok_shape T) (hr.mono (by decide)) (pa_cons (pv 4) (pa_cons (pv 1) pa_nil))) (pv 3) rfl)) pss_nil)))
      (pss_one (ps_ret (pv 2))))), ?_⟩
  refine a_setN (P := P) (w := w) (K := K) en_new fun l H1 hl e1 hn => ?_
  refine a_forS (Re := tx) (R := tE l) (ei_enumT (K := K) (ks := L.map itemK) (ea_one (ed_key (n := 0) rfl (h1.ex e1)))) (fun _ e => (tE l).ex e)
    (fun i σ H => ∃ y3 y4, σ = [some v1, some v2, some (.ref l), y3, y4] ∧ ND P w K H l (shV m (L.take i)))
    (fun H2 e2 => ⟨none, none, rfl, hn.ex e2⟩) (fun Hb eb i y σ' H' H2 hi e2 hP e3 hy => ?_) fun σ' H' e2 hP => ?_
  · obtain ⟨y3, y4, rfl, hn'⟩ := hP
    rw [List.length_map] at hi
    obtain ⟨o, ho, eo⟩ := item_at hi
    rw [eo] at hy
    obtain ⟨a, ys, rfl, hy1, ty⟩ := pT hy
    obtain ⟨w1, w2, rfl, g1, g2⟩ := tks2 ty
    rw [tk_num.mp g1] at hy1
    refine ⟨a, _, rfl, hy1.sq, rfl, _, _, rfl, _, _, rfl, rfl, ?_⟩
    refine a_if (R := tx) (et_v (ed_notN (K := K) (k := itemK o) (ed_key (n := 4) rfl g2) ed_non)) (fun hb H3 e4 => ?_) (fun hb H3 e4 => ?_)
    · cases o with
      | none => simp [itemK] at hb
      | some p =>
        have h2' : Tk K H3 (poseK m) v2 := ((h2.ex e1).to (((tE l).ts eb).trans ((tE l).ts e2))).ex (Ex.trans e3 e4)
        refine a_nput (K := K) (P := P) (w := w) (k := shapeK m p) (dv := dV tx (.int (i : Nat))) (hn'.ex (Ex.trans e3 e4)) (ed_v (i := 3) (v := .int (i : Nat)) rfl rfl) (ed_ref (n := 2) rfl)
          (ed_callK [pieceK p, poseK m] ⟨_, _, rfl, rfl⟩ (ea_cons (ed_key (n := 4) rfl (g2.ex e4)) (ea_one (ed_key (n := 1) rfl h2')))) ?_ ⟨_, rfl⟩ ?_ fun v H5 H6 e5 hv n5 n6 o6 => ?_
        · have hd := depth_shp p.1 ((endsOf p.1 p.2).map (laid m))
          exact keyDepth_shp _ _
        · have := shV_len m (L.take i)
          rw [List.length_take] at this
          omega
        · have hv : v = .int (i : Nat) := hv
          subst hv
          refine ⟨tE_nput ((tE l).trans e2 ((tE l).ex ((Ex.trans e3 e4).trans e5))) n5 n6 o6, _, _, rfl, ?_⟩
          rw [shV_take ho]
          rw [put_new (shV_new hF ho)] at n6
          exact n6
    · cases o with
      | some p => simp [itemK, pieceK] at hb
      | none =>
        refine ⟨(tE l).trans e2 ((tE l).ex (Ex.trans e3 e4)), _, _, rfl, ?_⟩
        rw [shV_take ho]
        show ND P w K H3 l (shV m (L.take i) ++ [])
        rw [List.append_nil]
        exact hn'.ex (Ex.trans e3 e4)
  · obtain ⟨y3, y4, rfl, hn'⟩ := hP
    rw [List.length_map, List.take_length] at hn'
    exact a_ret (R := tx) (ed_ref (n := 2) (l := l) rfl) fun v H4 e4 hv => by
      have hv : v = .ref l := hv
      subst hv
      exact q l H4 hl ((ex_of_tE hl e1 e2).trans e4) (hn'.ex e4)
theorem ok_motion_between (T : Tx w K mg d) : FnOk P w K mg base CX0 3 (d.f 9) (d.fd 9) ["pose", "other"] (spK K fBetween) := by
  have nd := sc_motion_between.nd
  refine T.motion_between.fn.ok sc_motion_between (fun vs H Q E h => len_of (fun ks k ⟨_, _, e, _⟩ => by rw [e]; rfl) h) (fun cdv A outer s H vs Q E hr h => ?_)
  obtain ⟨_, _, ⟨e, f, rfl, rfl⟩, ht, q⟩ := h
  obtain ⟨v1, v2, rfl, h1, h2⟩ := tks2 ht
  refine ⟨_, (pss_cons (ps_set (i := 2) nd rfl (.inl rfl) (pe_op op_sub (pe_ix ix_seq (pv 1) pe_int (fun _ _ => rfl)) (pe_ix ix_seq (pv 0) pe_int (fun _ _ => rfl))))
      (pss_cons (ps_set (i := 3) nd rfl (.inl rfl) (pc T.turned (ok_turned T) (hr.mono (by decide)) (pa_cons (pe_slice sl_tup (pv 0) po_none (po_some pe_int)) (pa_cons (pv 2) pa_nil))))
      (pss_one (ps_ret (pe_op op_catT (pc T.moved (ok_moved T) (hr.mono (by decide)) (pa_cons (pe_slice sl_tup (pv 1) po_none (po_some pe_int)) (pa_cons (pe_callTy call_tuple_of (by rfl) T.tuple PyProof.Rows.boot_tuple (pa_cons (pe_lc (own := [("one", 4)]) (g := gName 4) (tt := tYes) rfl nd (pi_tup (pv 3)) (blkOk_by (N := ["pose", "other", "eighths", "away", "one"]) (sc := defScope s_motion_between) (by decide +kernel)) (fun _ _ _ _ _ => (pg_name (i := 4) nd rfl (.inl rfl) (.inr rfl))) (fun _ _ _ _ _ => pts_nil) (fun _ _ _ _ _ => (pe_op op_sub pe_int (pv 4)))) pa_nil)) pa_nil))) (pe_tup (pa_cons (pe_op op_mod (pv 2) (pe_glob (by rfl) T.EIGHTHS T.rEIGHTHS)) pa_nil))))))), ?_⟩
  refine a_set (R := tx) (ed_sub (ed_hd (K := K) (ed_key (n := 1) rfl h2)) (ed_hd (ed_key (n := 0) rfl h1))) fun v H1 e1 hv => ?_
  have hv := pN hv
  subst hv
  refine a_set (R := tx) (d := dK tx K (posK (rot (f.h - e.h) e.p))) (ed_callK [posK e.p, .num (f.h - e.h)] ⟨_, _, rfl, rfl⟩ (ea_cons (ed_pos (ed_key (n := 0) rfl (h1.ex e1))) (ea_one (ed_num (n := 2) rfl)))) fun va H2 e2 hva => ?_
  have e12 := Ex.trans e1 e2
  have em : posL (rot (f.h - e.h) e.p).neg = (List.range (posL (rot (f.h - e.h) e.p)).length).map fun i => .num (0 - nth (rot (f.h - e.h) e.p) i) := rfl
  have ey : posK (rot (f.h - e.h) e.p).neg = .tup ((List.range (posL (rot (f.h - e.h) e.p)).length).map fun i => .num (0 - nth (rot (f.h - e.h) e.p) i)) := by rw [← em]; rfl
  refine a_ret (R := tx) (d := dK tx K (poseK (between e f))) (ed_pose (p := f.p.add (rot (f.h - e.h) e.p).neg) (n := (f.h - e.h) % 8) rfl (ed_callK [posK f.p, posK (rot (f.h - e.h) e.p).neg] ⟨_, _, rfl, rfl⟩ (ea_cons (ed_pos (ed_key (n := 1) rfl (h2.ex e12))) (ea_one ?_)))
    (ed_mod (by decide) (ed_num (n := 2) rfl) ed_int)) fun v H4 e4 hv => q v H4 (e12.trans e4) hv
  rw [ey]
  refine ed_tupOf _ (fun _ _ _ h => h) (el_lcA (K := K) _ (ei_tup (Re := tx) (R := tx) (ks := posL (rot (f.h - e.h) e.p)) (ed_key (n := 3) rfl hva)) (by rw [posL_len]; decide) fun i v H3 hlt e3 hv2 Q1 k1 => ?_)
  rw [posL_get _ i hlt] at hv2
  have hv2 := pN hv2
  subst hv2
  exact k1 _ _ rfl (Ex.refl _) (ed_sub ed_int (ed_num rfl))
end
end Mk
set_option Elab.async false
set_option linter.all false
set_option maxRecDepth 100000
set_option maxHeartbeats 400000
/-! motions of the program -/
namespace Mk
open PySem PySem.Spec PyProof.Rows L2 Evl
def motV (l : List P5) : List (NestedKey × V) := l.map fun m => (hmK m, V.bl true)
theorem motV_fst (l : List P5) : (motV l).map (·.1) = l.map hmK := by
  unfold motV
  rw [List.map_map]
  rfl
theorem sorty_hm {l : List P5} (h : l.length ≤ 1000) : Sorty (l.map hmK) := by
  refine ⟨fun x hx y hy => ?_, fun k hk => ?_, fun k hk => ?_, by rw [List.length_map]; exact h⟩
  · obtain ⟨p, _, rfl⟩ := List.mem_map.mp hx
    obtain ⟨q, _, rfl⟩ := List.mem_map.mp hy
    exact alike_hm p q
  · obtain ⟨p, _, rfl⟩ := List.mem_map.mp hk
    exact ⟨_, _, rfl⟩
  · obtain ⟨p, _, rfl⟩ := List.mem_map.mp hk
    simp [hmK, poseK, NestedKey.data, NestedKey.datas, PyData.depth, PyData.depthAll]
def fMotions (ks : List NestedKey) (k : NestedKey) : Prop := ∃ L : Lay, Free L ∧ L.length ≤ 200 ∧ ks = [.tup (L.map itemK)] ∧ k = .tup ((mots L).map poseK)
section
variable {K : PySem.W.Frag} {σ : L2.St} {H : Hp} {te : TE} {D : Ends} {tz : TS} {P : Program} {w : World} {ks : List NestedKey} {R : Tr}
theorem et_truT (h : ED R te σ H (dK R K (.tup ks))) : ET R (fun σ H Q => te σ H fun x H' => ∃ k, TruV K x H' k ∧ Q k H') σ H (!ks.isEmpty) := fun H1 e Q q => h H1 e _ fun v H2 e2 p => by
  obtain ⟨a, xs, rfl, hx, tx2⟩ := pT p
  refine ⟨!ks.isEmpty, .inr (.inl ⟨xs, hx.sq, ?_⟩), q H2 e2⟩
  have := tx2.len
  cases xs <;> cases ks <;> simp_all
theorem et_not {t : L2.TT} {b : Bool} (h : ET R t σ H b) : ET R (tNot t) σ H (!b) := fun H1 e Q q => h H1 e _ fun H2 e2 => q H2 e2
theorem en_shapes {L : Lay} {m : P5} {ta : TA} {E : XK} (hF : Free L) (hL : L.length ≤ 200) (h : EA R ta σ H [dK R K (.tup (L.map itemK)), dK R K (poseK m)]) : EN R P w K (tCall (spShapes P w K) [] E ta) σ H (shV m L) :=
  en_call h fun vs H1 _ p Q q => ⟨L, m, hF, hL, da_tks (ks := [.tup (L.map itemK), poseK m]) p, fun dd H2 hd e n => q dd H2 hd (R.ex e) n⟩
end
theorem motsOf_take {L : Lay} {e0 : P5} {es : List P5} {i : Nat} (hi : i < es.length) : motsOf L e0 [] (es.take (i + 1)) = if isMot L (between e0 (es.getD i home)) then ins (motsOf L e0 [] (es.take i)) (between e0 (es.getD i home)) else motsOf L e0 [] (es.take i) := by
  rw [List.take_add_one, get_lt (d := home) hi, motsOf_app]
  rfl
section
variable {P : Program} {w : World} {K : PySem.W.Frag} {mg : Str → Option Value} {base : Heap} {d : Da}
theorem ok_motions (T : Tx w K mg d) : FnOk P w K mg base CX0 7 (d.f 10) (d.fd 10) ["layout"] (spK K fMotions) := by
  have nd := sc_motions.nd
  refine T.motions.fn.ok sc_motions (fun vs H Q E h => len_of (fun ks k ⟨_, _, _, e, _⟩ => by rw [e]; rfl) h) (fun cdv A outer s H vs Q E hr h => ?_)
  obtain ⟨_, _, ⟨L, hF, hL, rfl, rfl⟩, ht, q⟩ := h
  obtain ⟨v1, rfl, h1⟩ := tks1 ht
  refine ⟨_, (pss_cons (ps_set (i := 1) nd rfl (.inl rfl) (pc T.all_ends (ok_all_ends T) (hr.mono (by decide)) (pa_cons (pv 0) pa_nil)))
      (pss_cons (ps_if (pt_not (pt_truth (pv 1) (fun _ => rfl))) (pss_one (ps_ret (pe_tup pa_nil))) pss_nil)
      (pss_cons (ps_set (i := 2) nd rfl (.inl rfl) (pe_callB (cr_sortND hr.units rfl) (by rfl) T.sorted PyProof.Rows.boot_sorted (pa_cons (pc T.shapes (ok_shapes T) (hr.mono (by decide)) (pa_cons (pv 0) (pa_cons (pe_op op_catT (pe_glob (by rfl) T.NOWHERE T.rNOWHERE) (pe_tup (pa_cons pe_int pa_nil))) pa_nil))) pa_nil)))
      (pss_cons (ps_set (i := 3) nd rfl (.inl rfl) pe_dnewN)
      (pss_cons (ps_for PassesOwn.never rfl (pi_tup (pv 1)) (pg_tup rfl (pgs_cons (pg_name (i := 4) nd rfl (.inl rfl)) (pgs_cons (pg_name (i := 4) nd rfl (.inl rfl)) (pgs_cons (pg_name (i := 5) nd rfl (.inl rfl)) pgs_nil)))) (pss_cons (ps_set (i := 6) nd rfl (.inl rfl) (pc T.motion_between (ok_motion_between T) (hr.mono (by decide)) (pa_cons (pe_ix ix_seq (pe_ix ix_seq (pv 1) pe_int (fun _ _ => rfl)) pe_int (fun _ _ => rfl)) (pa_cons (pv 5) pa_nil))))
      (pss_one (ps_if (pt_cmpR (op_eqD hr.units) (pe_callB (cr_sortND hr.units rfl) (by rfl) T.sorted PyProof.Rows.boot_sorted (pa_cons (pc T.shapes (ok_shapes T) (hr.mono (by decide)) (pa_cons (pv 0) (pa_cons (pv 6) pa_nil))) pa_nil)) (pv 2) (nomark _)) (pss_one (ps_nput hr.units (pv 3) (pe_tup (pa_cons (pe_ix ix_seq (pv 6) pe_int (fun _ _ => rfl)) (pa_cons (pv 6) pa_nil))) pe_bl rfl)) pss_nil))))
      (pss_one (ps_ret (pe_callTy call_tuple_of (by rfl) T.tuple PyProof.Rows.boot_tuple (pa_cons (pe_lc (own := [("_", 4), ("motion", 6)]) (g := gTup K 2 (gCons (gName 4) (gCons (gName 6) gNil))) (tt := tYes) rfl nd (pi_list (pe_callB (cr_sortND hr.units rfl) (by rfl) T.sorted PyProof.Rows.boot_sorted (pa_cons (pv 3) pa_nil))) (blkOk_by (N := ["layout", "ends", "own", "found", "_", "pose", "motion"]) (sc := defScope s_motions) (by decide +kernel)) (fun _ _ _ _ _ => (pg_tup rfl (pgs_cons (pg_name (i := 4) nd rfl (.inl rfl) (.inr rfl)) (pgs_cons (pg_name (i := 6) nd rfl (.inl rfl) (.inr rfl)) pgs_nil)))) (fun _ _ _ _ _ => pts_nil) (fun _ _ _ _ _ => (pv 6))) pa_nil))))))))), ?_⟩
  -- ends
  refine a_set (R := tx) (d := dK tx K (.tup ((allT (numd 0 L)).map aeK))) (ed_callK [.tup (L.map itemK)] ⟨L, by omega, rfl, rfl⟩ (ea_one (ed_key (n := 0) rfl h1))) fun ve H1 e1 hve => ?_
  refine a_ifS (R := tx) (et_not (et_truT (K := K) (ks := (allT (numd 0 L)).map aeK) (ed_key (n := 1) rfl hve))) (fun hb H2 e2 => ?_) fun hb H2 e2 => ?_
  · have h0 : allT (numd 0 L) = [] := by
      cases h : allT (numd 0 L) with
      | nil => rfl
      | cons x r => rw [h] at hb; simp at hb
    have h2 : eps L = [] := by rw [← allT_eps, h0]; rfl
    have h3 : mots L = [] := by unfold mots; rw [h2]
    rw [h3] at q
    exact a_ret (R := tx) (ed_tup (K := K) [] ea_nil (by decide)) fun v H4 e4 hv => q v H4 ((Ex.trans e1 e2).trans e4) hv
  have hne : ∃ t ts, allT (numd 0 L) = t :: ts := by
    cases h : allT (numd 0 L) with
    | nil => rw [h] at hb; simp at hb
    | cons x r => exact ⟨x, r, rfl⟩
  obtain ⟨t0, ts0, hts⟩ := hne
  have heps : eps L = t0.2.2 :: ts0.map (·.2.2) := by rw [← allT_eps, hts]; rfl
  have hlen : (eps L).length ≤ 800 := by have := eps_len L; omega
  -- own
  have pl := pcs_len L
  refine a_setL (R := tx) (el_sortND (K := K) (kvs := shV home L) (by rw [shV_fst]; exact sorty_shapes (by omega)) (en_shapes (P := P) (w := w) hF hL (ea_cons (ed_key (n := 0) rfl (h1.ex (Ex.trans e1 e2)))
    (ea_one (ed_pose (K := K) (p := P4.nul) (n := 0) rfl (ed_c (d := dK tx K (posK P4.nul)) (T.kNOWHERE _)) ed_int))))) fun o xo H3 ho e3 hxo hto => ?_
  -- found
  refine a_setN (P := P) (w := w) (K := K) en_new fun l H4 hl e4 hn => ?_
  have e14 := ((Ex.trans e1 e2).trans e3).trans e4
  have hol : o ≠ l := ne_of_none hxo hl
  refine a_forS (Re := tx) (R := tE l) (ei_tup (K := K) (ks := (allT (numd 0 L)).map aeK) (ed_key (n := 1) rfl (((Tk.ex hve e2).ex e3).ex e4))) (fun _ e => (tE l).ex e)
    (fun i σ H => ∃ y4 y5 y6, σ = [some v1, some ve, some (.ref o), some (.ref l), y4, y5, y6] ∧ ND P w K H l (motV (motsOf L t0.2.2 [] ((eps L).take i))))
    (fun H5 e5 => ⟨none, none, none, rfl, hn.ex e5⟩) (fun Hb eb i y σ' H' H5 hi e5 hP e6 hy => ?_) fun σ' H' e5 hP => ?_
  · obtain ⟨y4, y5, y6, rfl, hn'⟩ := hP
    rw [List.length_map] at hi
    rw [getD_map (d := (0, 0, home)) (f := aeK) hi] at hy
    obtain ⟨a, ys, rfl, hy1, ty⟩ := pT hy
    obtain ⟨w1, w2, w3, rfl, g1, g2, g3⟩ := tks3 ty
    have gi : ((allT (numd 0 L)).getD i (0, 0, home)).2.2 = (eps L).getD i home := by
      rw [← allT_eps, List.getD_eq_getElem?_getD, List.getD_eq_getElem?_getD, List.getElem?_map]
      cases h : (allT (numd 0 L))[i]? <;> rfl
    rw [gi] at g3
    have hi2 : i < (eps L).length := by rw [← allT_eps, List.length_map]; exact hi
    refine ⟨a, _, rfl, hy1.sq, rfl, _, _, rfl, _, _, rfl, _, _, rfl, rfl, ?_⟩
    -- motion
    have tsb : TSt H1 H5 := ((TSt.ex (Ex.trans (Ex.trans e2 e3) e4)).trans (((tE l).ts eb).trans ((tE l).ts e5))).trans (TSt.ex e6)
    have hve5 : Tk K H5 (.tup ((allT (numd 0 L)).map aeK)) ve := Tk.to hve tsb
    have h15 : Tk K H5 (.tup (L.map itemK)) v1 := (h1.ex e1).to tsb
    refine a_set (R := tx) (d := dK tx K (poseK (between t0.2.2 ((eps L).getD i home)))) (ed_callK [poseK t0.2.2, poseK ((eps L).getD i home)] ⟨_, _, rfl, rfl⟩ (ea_cons (ed_ixT (K := K) (ks := [.num t0.1, .num t0.2.1, poseK t0.2.2]) (i := 2) rfl
      (ed_ixT (K := K) (ks := (allT (numd 0 L)).map aeK) (i := 0) (by rw [hts]; exact (at_nat (i := 0)).trans rfl) (ed_key (n := 1) rfl hve5) ed_int) ed_int) (ea_one (ed_key (n := 5) rfl g3)))) fun vm H6 e7 hvm => ?_
    have e56 := Ex.trans e6 e7
    have hxo6 : H6 o = some (.lst xo) := e56 _ _ (e5.1 _ _ hol (eb.1 _ _ hol (e4 _ _ hxo)))
    have hto6 : Tks K H6 (ksort ((shV home L).map (·.1))) xo := (hto.to ((TSt.ex e4).trans (((tE l).ts eb).trans ((tE l).ts e5)))).ex e56
    have ht : ET tx (tTest (tOp (rEqD K) (tCB (rSortND P w K) (tCons (tCall (spShapes P w K) [] E0 (tCons (tVar 0) (tCons (tVar 6) tNil))) tNil)) (tVar 2))) [some v1, some ve, some (.ref o), some (.ref l), some w2, some w3, some vm] H6
        (decide (ksort ((shV (between t0.2.2 ((eps L).getD i home)) L).map (·.1)) = ksort ((shV home L).map (·.1)))) := by
      refine et_v (ed_eqD (K := K) (fun k hk => ?_) (fun k hk => ?_) (ED.of_el (el_sortND (kvs := shV (between t0.2.2 ((eps L).getD i home)) L) (by rw [shV_fst]; exact sorty_shapes (by omega)) (en_shapes (P := P) (w := w) hF hL (ea_cons (ed_key (n := 0) rfl (h15.ex e7)) (ea_one (ed_key (n := 6) rfl hvm))))) fun _ _ => trivial)
        (ed_lst (n := 2) rfl trivial hxo6 hto6))
      · rw [shV_fst] at hk
        obtain ⟨p, _, rfl⟩ := List.mem_map.mp (mem_ksort.mp hk)
        exact shp_nice _ _
      · rw [shV_fst] at hk
        obtain ⟨p, _, rfl⟩ := List.mem_map.mp (mem_ksort.mp hk)
        exact shp_nice _ _
    have eisM : decide (ksort ((shV (between t0.2.2 ((eps L).getD i home)) L).map (·.1)) = ksort ((shV home L).map (·.1))) = decide (isMot L (between t0.2.2 ((eps L).getD i home))) := by
      rw [shV_fst, shV_fst]
      rfl
    rw [eisM] at ht
    have lmo : (motsOf L t0.2.2 [] ((eps L).take i)).length ≤ 800 := by
      have h := motsOf_len L t0.2.2 ((eps L).take i) []
      rw [List.length_take] at h
      simp only [List.length_nil] at h
      omega
    refine a_if (R := tx) ht (fun hb2 H7 e8 => ?_) (fun hb2 H7 e8 => ?_)
    · have hm := of_decide_eq_true hb2
      refine a_nput (K := K) (P := P) (w := w) (k := hmK (between t0.2.2 ((eps L).getD i home))) (dv := dV tx (.bl true)) (hn'.ex (Ex.trans e56 e8)) (ed_c rfl) (ed_ref (n := 3) rfl)
        (ed_tup [.num (between t0.2.2 ((eps L).getD i home)).h, poseK (between t0.2.2 ((eps L).getD i home))] (ea_cons (ed_hd (ed_key (n := 6) rfl (Tk.ex hvm e8))) (ea_one (ed_key (n := 6) rfl (Tk.ex hvm e8)))) (by show 2 ≤ 100000; decide)) (keyDepth_hm _) ⟨_, rfl⟩ ?_ fun v H8 H9 e9 hv n8 n9 o9 => ?_
      · unfold motV
        rw [List.length_map]
        omega
      · have hv : v = .bl true := hv
        subst hv
        refine ⟨tE_nput ((tE l).trans e5 ((tE l).ex ((Ex.trans e56 e8).trans e9))) n8 n9 o9, _, _, _, rfl, ?_⟩
        rw [motsOf_take hi2, if_pos hm]
        unfold motV at n9 ⊢
        rw [put_same (fun a b => hmK_inj)] at n9
        exact n9
    · have hm := of_decide_eq_false hb2
      refine ⟨(tE l).trans e5 ((tE l).ex (Ex.trans e56 e8)), _, _, _, rfl, ?_⟩
      rw [motsOf_take hi2, if_neg hm]
      exact hn'.ex (Ex.trans e56 e8)
  · obtain ⟨y4, y5, y6, rfl, hn'⟩ := hP
    have el : ((allT (numd 0 L)).map aeK).length = (eps L).length := by rw [← allT_eps, List.length_map, List.length_map]
    rw [el, List.take_length] at hn'
    have em : mots L = sortBy hmK (motsOf L t0.2.2 [] (eps L)) := by
      unfold mots
      rw [heps]
    have lmo : (motsOf L t0.2.2 [] (eps L)).length ≤ 800 := by
      have h := motsOf_len L t0.2.2 (eps L) []
      simp only [List.length_nil] at h
      omega
    have es : ksort ((motV (motsOf L t0.2.2 [] (eps L))).map (·.1)) = (mots L).map hmK := by rw [motV_fst, ksort_map, em]
    have ey : (mots L).map poseK = (List.range ((mots L).map hmK).length).map fun i => poseK ((mots L).getD i home) := by
      rw [List.length_map]
      exact range_getD.symm
    have lm : (mots L).length ≤ 800 := by rw [em, (sortBy_perm hmK _).length_eq]; exact lmo
    refine a_ret (R := tx) (d := dK tx K (.tup ((mots L).map poseK))) ?_ fun v H6 e6 hv => q v H6 ((ex_of_tE (fresh_back (Ex.trans (Ex.trans e1 e2) e3) hl) e14 e5).trans e6) hv
    rw [ey]
    have hs := el_sortNS (R := tx) (P := P) (w := w) (K := K) (σ := [some v1, some ve, some (.ref o), some (.ref l), y4, y5, y6]) (H := H') (te := tVar 3) (kvs := motV (motsOf L t0.2.2 [] (eps L))) (by rw [motV_fst]; exact sorty_hm (by omega)) (ed_v (v := .ref l) rfl ⟨l, rfl, trivial, hn'⟩)
    rw [es] at hs
    refine ed_tupOf _ (fun _ _ _ h => h) (el_lcA (K := K) _ (ei_listN (Re := tx) (R := tx) hs fun _ _ => trivial) (by rw [List.length_map]; omega) fun i v H6 hlt e6 hv2 Q1 k1 => ?_)
    rw [List.length_map] at hlt
    rw [getD_map (d := home) (f := hmK) hlt] at hv2
    obtain ⟨a, ys, rfl, hy1, ty⟩ := pT hv2
    obtain ⟨w1, w2, rfl, g1, g2⟩ := tks2 ty
    exact ⟨a, _, rfl, hy1.sq, rfl, _, _, rfl, _, _, rfl, rfl, k1 _ _ rfl (Ex.refl _) (ed_key (n := 6) rfl g2)⟩
end
end Mk
set_option Elab.async false
set_option linter.all false
set_option maxRecDepth 100000
set_option maxHeartbeats 400000
/-! Alike pieces: plain. -/
namespace Mk
open PySem PySem.W PyProof.Rows
theorem perm_same {α : Type} [DecidableEq α] : ∀ {a b : List α}, a.Nodup → b.Nodup → (∀ x, x ∈ a ↔ x ∈ b) → a.Perm b
  | [], b, _, _, h => by
    cases b with
    | nil => exact .nil
    | cons y b => exact absurd ((h y).mpr List.mem_cons_self) (by simp)
  | x :: a, b, ha, hb, h => by
    have hx : x ∈ b := (h x).mp List.mem_cons_self
    rw [List.nodup_cons] at ha
    have hp := List.perm_cons_erase hx
    have hb2 := (hp.nodup_iff.mp hb)
    rw [List.nodup_cons] at hb2
    refine ((perm_same ha.2 hb2.2 fun y => ?_).cons x).trans hp.symm
    constructor
    · intro hy
      have h1 := hp.mem_iff.mp ((h y).mp (List.mem_cons_of_mem _ hy))
      rcases List.mem_cons.mp h1 with rfl | h1
      · exact absurd hy ha.1
      · exact h1
    · intro hy
      have h1 := (h y).mpr (hp.mem_iff.mpr (List.mem_cons_of_mem _ hy))
      rcases List.mem_cons.mp h1 with rfl | h1
      · exact absurd hy hb2.1
      · exact h1
/-- strictly ascending lists of the same numbers -/
theorem asc_eq : ∀ {a b : List Nat}, a.Pairwise (· < ·) → b.Pairwise (· < ·) → (∀ x, x ∈ a ↔ x ∈ b) → a = b
  | [], [], _, _, _ => rfl
  | [], y :: b, _, _, h => absurd ((h y).mpr List.mem_cons_self) (by simp)
  | x :: a, [], _, _, h => absurd ((h x).mp List.mem_cons_self) (by simp)
  | x :: a, y :: b, ha, hb, h => by
    rw [List.pairwise_cons] at ha hb
    have e : x = y := by
      have h1 := (h x).mp List.mem_cons_self
      have h2 := (h y).mpr List.mem_cons_self
      rcases List.mem_cons.mp h1 with h1 | h1
      · exact h1
      · rcases List.mem_cons.mp h2 with h2 | h2
        · exact h2.symm
        · have := ha.1 _ h2
          have := hb.1 _ h1
          omega
    subst e
    congr 1
    refine asc_eq ha.2 hb.2 fun z => ?_
    constructor
    · intro hz
      rcases List.mem_cons.mp ((h z).mp (List.mem_cons_of_mem _ hz)) with rfl | h1
      · have := ha.1 _ hz; omega
      · exact h1
    · intro hz
      rcases List.mem_cons.mp ((h z).mpr (List.mem_cons_of_mem _ hz)) with rfl | h1
      · have := hb.1 _ hz; omega
      · exact h1
/-- the pairs (a piece's number, the number of the piece where a motion takes it) -/
def PR (L : Lay) (m : P5) (n j : Nat) : Prop := ∃ p q, (p, n) ∈ numd 0 L ∧ (q, j) ∈ numd 0 L ∧ shapeK m p = shapeK home q
def linked (L : Lay) (n j : Nat) : Prop := ∃ m ∈ mots L, PR L m n j
noncomputable def grp (L : Lay) (n : Nat) : List Nat := (List.range L.length).filter fun j => @decide (linked L n j) (Classical.propDecidable _)
def gK (l : List Nat) : NestedKey := .tup (l.map fun n => .num (n : Nat))
theorem numd_lt {L : Lay} {p : Piece} {n : Nat} (h : (p, n) ∈ numd 0 L) : n < L.length := by
  have := ((numd_num 0 L).2 _ h).2
  show n < L.length
  omega
theorem grp_pw (L : Lay) (n : Nat) : (grp L n).Pairwise (· < ·) := List.Pairwise.filter _ List.pairwise_lt_range
theorem mem_grp {L : Lay} {n j : Nat} : j ∈ grp L n ↔ linked L n j := by
  unfold grp
  rw [List.mem_filter, List.mem_range]
  refine ⟨fun h => @of_decide_eq_true _ (Classical.propDecidable _) h.2, fun h => ⟨?_, @decide_eq_true _ (Classical.propDecidable _) h⟩⟩
  obtain ⟨_, _, _, q, _, h2, _⟩ := h
  exact numd_lt h2
theorem grp_of {L : Lay} {n : Nat} {l : List Nat} (hs : l.Pairwise (· < ·)) (hm : ∀ j, j ∈ l ↔ linked L n j) : l = grp L n :=
  asc_eq hs (grp_pw L n) fun j => (hm j).trans mem_grp.symm
theorem grp_len (L : Lay) (n : Nat) : (grp L n).length ≤ L.length := by
  unfold grp
  have := List.length_filter_le (fun j => @decide (linked L n j) (Classical.propDecidable _)) (List.range L.length)
  rw [List.length_range] at this
  exact this
def dedup (l : List NestedKey) : List NestedKey := l.foldl ins []
theorem foldl_ins : ∀ (l acc : List NestedKey), acc.Nodup → (l.foldl ins acc).Nodup ∧ ∀ k, k ∈ l.foldl ins acc ↔ k ∈ acc ∨ k ∈ l
  | [], acc, h => ⟨h, fun k => by simp⟩
  | x :: l, acc, h => by
    obtain ⟨h1, h2⟩ := foldl_ins l (ins acc x) (nodup_ins h)
    refine ⟨h1, fun k => ?_⟩
    show k ∈ l.foldl ins (ins acc x) ↔ _
    rw [h2, mem_ins, List.mem_cons, or_assoc]
noncomputable def setsK (L : Lay) : List NestedKey := ksort (dedup ((numd 0 L).map fun q => gK (grp L q.2)))
theorem alike_gK (a b : List Nat) : alike (gK a).data (gK b).data = true := by
  have h : alikeAll (NestedKey.datas (a.map fun n => NestedKey.num (n : Nat))) (NestedKey.datas (b.map fun n => NestedKey.num (n : Nat))) = true := by
    refine alikeAll_of _ _ fun x hx y hy => ?_
    obtain ⟨p, _, rfl⟩ := List.mem_map.mp hx
    obtain ⟨q, _, rfl⟩ := List.mem_map.mp hy
    simp [NestedKey.data, alike]
  simp [gK, NestedKey.data, alike, h]
theorem sets_of {L : Lay} {D : List NestedKey} (hn : D.Nodup) (hm : ∀ k, k ∈ D ↔ ∃ q ∈ numd 0 L, k = gK (grp L q.2)) : ksort D = setsK L := by
  obtain ⟨h1, h2⟩ := foldl_ins ((numd 0 L).map fun q => gK (grp L q.2)) [] List.nodup_nil
  refine ksort_eq (fun x hx y hy => ?_) (perm_same hn h1 fun k => ?_)
  · obtain ⟨q, _, rfl⟩ := (hm x).mp hx
    obtain ⟨r, _, rfl⟩ := (hm y).mp hy
    exact alike_gK _ _
  · rw [hm]
    show _ ↔ k ∈ ((numd 0 L).map fun q => gK (grp L q.2)).foldl ins []
    rw [h2]
    constructor
    · rintro ⟨q, hq, rfl⟩
      exact .inr (List.mem_map.mpr ⟨q, hq, rfl⟩)
    · rintro (h | h)
      · cases h
      · obtain ⟨q, hq, rfl⟩ := List.mem_map.mp h
        exact ⟨q, hq, rfl⟩
theorem setsK_nil {L : Lay} (h : numd 0 L = []) : setsK L = [] := by
  unfold setsK dedup
  rw [h]
  simp [ksort]
/-- a piece linked to itself by home -/
theorem linked_self {L : Lay} {p : Piece} {n : Nat} (h : (p, n) ∈ numd 0 L) : linked L n n := by
  have hp : p ∈ pcs L := by
    rw [← numd_fst 0 L]
    exact List.mem_map.mpr ⟨_, h, rfl⟩
  have h1 : laid p.2 back0 ∈ eps L := List.mem_flatMap.mpr ⟨p, hp, List.mem_cons_self⟩
  cases he : eps L with
  | nil => rw [he] at h1; cases h1
  | cons e es => exact ⟨home, home_mots he, p, p, h, h, rfl⟩
theorem grp_ne {L : Lay} {p : Piece} {n : Nat} (h : (p, n) ∈ numd 0 L) : ∃ x r, grp L n = x :: r := by
  have := mem_grp.mpr (linked_self h)
  cases hg : grp L n with
  | nil => rw [hg] at this; cases this
  | cons x r => exact ⟨x, r, rfl⟩
theorem numd_inj {L : Lay} {p q : Piece} {n : Nat} (h1 : (p, n) ∈ numd 0 L) (h2 : (q, n) ∈ numd 0 L) : p = q := by
  have h := (numd_num 0 L).1
  have key : ∀ (l : List (Piece × Nat)), (l.map (·.2)).Pairwise (· < ·) → ∀ p q n, (p, n) ∈ l → (q, n) ∈ l → p = q := by
    intro l
    induction l with
    | nil => intro _ _ _ _ h; cases h
    | cons x l ih =>
      intro hw p q n hp hq
      rw [List.map_cons, List.pairwise_cons] at hw
      rcases List.mem_cons.mp hp with ep | hp2
      · rcases List.mem_cons.mp hq with eq | hq2
        · exact congrArg Prod.fst (ep.trans eq.symm)
        · have := hw.1 n (List.mem_map.mpr ⟨(q, n), hq2, rfl⟩)
          rw [← ep] at this
          exact absurd this (by show ¬ n < n; omega)
      · rcases List.mem_cons.mp hq with eq | hq2
        · have := hw.1 n (List.mem_map.mpr ⟨(p, n), hp2, rfl⟩)
          rw [← eq] at this
          exact absurd this (by show ¬ n < n; omega)
        · exact ih hw.2 p q n hp2 hq2
  exact key _ h p q n h1 h2
/-- in a free layout a shape is one piece's -/
theorem shape_one {L : Lay} (hL : Free L) {m : P5} {p q : Piece} {n j : Nat} (h1 : (p, n) ∈ numd 0 L) (h2 : (q, j) ∈ numd 0 L) (e : shapeK m p = shapeK m q) : n = j := by
  have h := shapes_nodup hL m
  rw [← numd_fst 0 L, List.map_map] at h
  have key : ∀ (l : List (Piece × Nat)), (l.map (shapeK m ∘ Prod.fst)).Nodup → ∀ x y, x ∈ l → y ∈ l → shapeK m x.1 = shapeK m y.1 → x = y := by
    intro l
    induction l with
    | nil => intro _ _ _ h; cases h
    | cons z l ih =>
      intro hw x y hx hy e
      rw [List.map_cons, List.nodup_cons] at hw
      rcases List.mem_cons.mp hx with ex | hx2
      · rcases List.mem_cons.mp hy with ey | hy2
        · rw [ex, ey]
        · exact (hw.1 (List.mem_map.mpr ⟨y, hy2, by rw [← ex]; exact e.symm⟩)).elim
      · rcases List.mem_cons.mp hy with ey | hy2
        · exact (hw.1 (List.mem_map.mpr ⟨x, hx2, by rw [← ey]; exact e⟩)).elim
        · exact ih hw.2 x y hx2 hy2 e
  have := key _ h _ _ h1 h2 e
  exact congrArg Prod.snd this
/-- where a motion takes a piece -/
theorem mot_piece {L : Lay} {m : P5} (hm : isMot L m) {p : Piece} {n : Nat} (h : (p, n) ∈ numd 0 L) : ∃ q j, (q, j) ∈ numd 0 L ∧ shapeK m p = shapeK home q := by
  have hp : p ∈ pcs L := by
    rw [← numd_fst 0 L]
    exact List.mem_map.mpr ⟨_, h, rfl⟩
  obtain ⟨q, hq, e⟩ := List.mem_map.mp ((isMot_perm.mp hm).mem_iff.mp (List.mem_map.mpr ⟨p, hp, rfl⟩))
  rw [← numd_fst 0 L] at hq
  obtain ⟨x, hx, rfl⟩ := List.mem_map.mp hq
  exact ⟨x.1, x.2, hx, e.symm⟩

/-! ### groups as they grow -/
abbrev Gs := List (Nat × List Nat)
def addG (G : Gs) (n j : Nat) : Gs := if n ∈ G.map (·.1) then G.map (fun x => if x.1 = n then (x.1, ins x.2 j) else x) else G ++ [(n, [j])]
/-- what groups hold: W n j, the pairs so far -/
structure GW (G : Gs) (W : Nat → Nat → Prop) : Prop where
  keys : (G.map (·.1)).Nodup
  key : ∀ n, n ∈ G.map (·.1) ↔ ∃ j, W n j
  nod : ∀ x ∈ G, x.2.Nodup
  mem : ∀ x ∈ G, ∀ j, j ∈ x.2 ↔ W x.1 j
theorem GW.nil : GW [] fun _ _ => False := ⟨List.nodup_nil, fun n => by simp, fun _ h => (nomatch h), fun _ h => (nomatch h)⟩
theorem GW.iff {G : Gs} {W W' : Nat → Nat → Prop} (g : GW G W) (h : ∀ n j, W n j ↔ W' n j) : GW G W' :=
  ⟨g.keys, fun n => (g.key n).trans ⟨fun ⟨j, q⟩ => ⟨j, (h n j).mp q⟩, fun ⟨j, q⟩ => ⟨j, (h n j).mpr q⟩⟩, g.nod, fun x hx j => (g.mem x hx j).trans (h _ _)⟩
theorem addG_keys (G : Gs) (n j : Nat) : (addG G n j).map (·.1) = ins (G.map (·.1)) n := by
  unfold addG ins
  split
  · rw [List.map_map]
    refine List.map_congr_left fun x _ => ?_
    show (if x.1 = n then (x.1, ins x.2 j) else x).1 = x.1
    split <;> rfl
  · rw [List.map_append]
    rfl
theorem GW.add {G : Gs} {W : Nat → Nat → Prop} (g : GW G W) (n j : Nat) : GW (addG G n j) fun a b => W a b ∨ (a = n ∧ b = j) := by
  refine ⟨by rw [addG_keys]; exact nodup_ins g.keys, fun a => ?_, fun x hx => ?_, fun x hx b => ?_⟩
  · rw [addG_keys, mem_ins, g.key]
    constructor
    · rintro (⟨b, h⟩ | rfl)
      · exact ⟨b, .inl h⟩
      · exact ⟨j, .inr ⟨rfl, rfl⟩⟩
    · rintro ⟨b, h | ⟨rfl, rfl⟩⟩
      · exact .inl ⟨b, h⟩
      · exact .inr rfl
  · unfold addG at hx
    split at hx
    · obtain ⟨y, hy, rfl⟩ := List.mem_map.mp hx
      split
      · exact nodup_ins (g.nod y hy)
      · exact g.nod y hy
    · rcases List.mem_append.mp hx with h | h
      · exact g.nod x h
      · rw [List.mem_singleton.mp h]
        simp
  · unfold addG at hx
    split at hx
    · obtain ⟨y, hy, rfl⟩ := List.mem_map.mp hx
      by_cases hyn : y.1 = n
      · rw [if_pos hyn]
        show b ∈ ins y.2 j ↔ W y.1 b ∨ (y.1 = n ∧ b = j)
        rw [mem_ins, g.mem y hy]
        simp [hyn]
      · rw [if_neg hyn, g.mem y hy]
        simp [hyn]
    · rename_i hnk
      rcases List.mem_append.mp hx with h | h
      · have hne : x.1 ≠ n := fun e => hnk (List.mem_map.mpr ⟨x, h, e⟩)
        rw [g.mem x h]
        simp [hne]
      · rw [List.mem_singleton.mp h]
        have hnw : ¬ W n b := fun hw => hnk ((g.key n).mpr ⟨b, hw⟩)
        simp [hnw]
end Mk
set_option Elab.async false
set_option linter.all false
set_option maxRecDepth 100000
set_option maxHeartbeats 400000
/-! alike of the program -/
namespace Mk
open PySem PySem.Spec PyProof.Rows L2 Evl
/-- what ok tells of stays -/
def tO (ok : Addr → Prop) : Tr where
  r H H' := (∀ a o, ok a → H a = some o → H' a = some o) ∧ TSt H H' ∧ ∀ a, H' a = none → H a = none
  refl H := ⟨fun _ _ _ h => h, TSt.refl H, fun _ h => h⟩
  trans a b := ⟨fun c o n h => b.1 c o n (a.1 c o n h), a.2.1.trans b.2.1, fun c h => a.2.2 c (b.2.2 c h)⟩
  ts a := a.2.1
  ex e := ⟨fun a o _ h => e a o h, TSt.ex e, fun a h => fresh_back e h⟩
  ok := ok
  keep e n h := e.1 _ _ n h
  fresh e h := e.2.2 _ h
theorem tO_upd {ok : Addr → Prop} {H H' : Hp} {a : Addr} {o : HO} (e : (tO ok).r H H') (na : ¬ ok a) (nt : ∀ xs, H' a ≠ some (.tup xs)) : (tO ok).r H (upd H' a o) :=
  ⟨fun b u n q => by
    have ne : b ≠ a := fun z => na (z ▸ n)
    rw [upd_ne ne]
    exact e.1 b u n q, TSt.upd e.2.1 nt, fun b q => by
    by_cases z : b = a
    · subst z; rw [upd_same] at q; cases q
    · rw [upd_ne z] at q; exact e.2.2 b q⟩
theorem ex_of_tO {H0 H H' : Hp} (e : Ex H0 H) (r : (tO fun a => H0 a ≠ none).r H H') : Ex H0 H' := fun a o h => r.1 a o (show H0 a ≠ none by rw [h]; simp) (e a o h)
def kvG (G : Gs) (A : List Addr) : List (L2.Key × V) := List.zipWith (fun x a => ((Sum.inl (x.1 : Int) : L2.Key), V.ref a)) G A
def setV (l : List Nat) : List (L2.Key × V) := l.map fun j : Nat => ((Sum.inl (j : Int) : L2.Key), V.bl true)
theorem valV_mem {κ : Type} [DecidableEq κ] : ∀ {kvs : List (κ × V)} {k : κ} {v : V}, (kvs.map (·.1)).Nodup → (k, v) ∈ kvs → valV kvs k = some v
  | [], _, _, _, h => nomatch h
  | p :: r, k, v, hn, h => by
    rw [List.map_cons, List.nodup_cons] at hn
    rcases List.mem_cons.mp h with e | h
    · subst e
      exact valV_pos rfl
    · have ne : ¬ p.1 = k := fun e => hn.1 (List.mem_map.mpr ⟨(k, v), h, e.symm⟩)
      rw [valV_neg ne]
      exact valV_mem hn.2 h
theorem valV_none {κ : Type} [DecidableEq κ] : ∀ {kvs : List (κ × V)} {k : κ}, k ∉ kvs.map (·.1) → valV kvs k = none
  | [], _, _ => rfl
  | p :: r, k, h => by
    rw [List.map_cons, List.mem_cons, not_or] at h
    rw [valV_neg fun e => h.1 e.symm]
    exact valV_none h.2
theorem kvG_keys : ∀ {G : Gs} {A : List Addr}, A.length = G.length → (kvG G A).map (·.1) = G.map fun x => (Sum.inl (x.1 : Int) : L2.Key)
  | [], [], _ => rfl
  | [], _ :: _, h => by simp at h
  | _ :: _, [], h => by simp at h
  | x :: G, a :: A, h => by
    show _ :: (kvG G A).map (·.1) = _
    rw [kvG_keys (by simpa using h)]
    rfl
theorem kvG_at {G : Gs} {A : List Addr} {i : Nat} {x : Nat × List Nat} {a : Addr} (h1 : G[i]? = some x) (h2 : A[i]? = some a) : ((Sum.inl (x.1 : Int) : L2.Key), V.ref a) ∈ kvG G A := by
  refine List.mem_of_getElem? (i := i) ?_
  unfold kvG
  rw [List.getElem?_zipWith, h1, h2]
theorem inl_nodup {l : List Nat} (h : l.Nodup) : (l.map fun n : Nat => (Sum.inl (n : Int) : L2.Key)).Nodup := by
  rw [List.Nodup, List.pairwise_map]
  refine List.Pairwise.imp (fun {a b} ne e => ne ?_) h
  injection e with e
  omega
/-- the groups on the heap -/
structure GH (H0 H : Hp) (g : Addr) (G : Gs) (A : List Addr) : Prop where
  len : A.length = G.length
  nod : A.Nodup
  gA : g ∉ A
  h0 : ∀ a, a = g ∨ a ∈ A → H0 a = none
  at_ : H g = some (.dK (kvG G A))
  in_ : ∀ (i : Nat) (x : Nat × List Nat) (a : Addr), G[i]? = some x → A[i]? = some a → H a = some (.dK (setV x.2))
theorem GH.stay {H0 H H' : Hp} {g : Addr} {G : Gs} {A : List Addr} (h : GH H0 H g G A) (e : ∀ a u, a = g ∨ a ∈ A → H a = some u → H' a = some u) : GH H0 H' g G A :=
  ⟨h.len, h.nod, h.gA, h.h0, e _ _ (.inl rfl) h.at_, fun i x a h1 h2 => e _ _ (.inr (List.mem_of_getElem? h2)) (h.in_ i x a h1 h2)⟩
theorem GH.ex {H0 H H' : Hp} {g : Addr} {G : Gs} {A : List Addr} (h : GH H0 H g G A) (e : Ex H H') : GH H0 H' g G A := h.stay fun a u _ q => e a u q
theorem GH.dk {H0 H : Hp} {g : Addr} {G : Gs} {A : List Addr} (h : GH H0 H g G A) {a : Addr} (ha : a = g ∨ a ∈ A) : ∃ kvs, H a = some (.dK kvs) := by
  rcases ha with rfl | ha
  · exact ⟨_, h.at_⟩
  · obtain ⟨i, hi⟩ := List.getElem?_of_mem ha
    have hl : i < G.length := by have := (List.getElem?_eq_some_iff.mp hi).1; have := h.len; omega
    exact ⟨_, h.in_ i _ a (List.getElem?_eq_getElem hl) hi⟩
theorem keyNat {G : Gs} {n : Nat} : n ∈ G.map (·.1) ↔ (Sum.inl (n : Int) : L2.Key) ∈ G.map fun x => (Sum.inl (x.1 : Int) : L2.Key) := by
  rw [List.mem_map, List.mem_map]
  constructor
  · rintro ⟨x, hx, rfl⟩
    exact ⟨x, hx, rfl⟩
  · rintro ⟨x, hx, e⟩
    injection e with e
    exact ⟨x, hx, by omega⟩
theorem GH.find {H0 H : Hp} {g : Addr} {G : Gs} {A : List Addr} {W : Nat → Nat → Prop} (h : GH H0 H g G A) (w : GW G W) (n : Nat) :
    (n ∉ G.map (·.1) ∧ valV (kvG G A) (Sum.inl (n : Int)) = none) ∨ ∃ (i : Nat) (l : List Nat) (a : Addr), G[i]? = some (n, l) ∧ A[i]? = some a ∧ n ∈ G.map (·.1) ∧ valV (kvG G A) (Sum.inl (n : Int)) = some (.ref a) := by
  have hk := kvG_keys h.len
  by_cases hn : n ∈ G.map (·.1)
  · right
    obtain ⟨x, hx, rfl⟩ := List.mem_map.mp hn
    obtain ⟨i, hi⟩ := List.getElem?_of_mem hx
    have hl : i < A.length := by have := (List.getElem?_eq_some_iff.mp hi).1; have := h.len; omega
    refine ⟨i, x.2, A[i], hi, List.getElem?_eq_getElem hl, hn, valV_mem ?_ (kvG_at hi (List.getElem?_eq_getElem hl))⟩
    rw [hk]
    have := inl_nodup w.keys
    rw [List.map_map] at this
    exact this
  · left
    refine ⟨hn, valV_none ?_⟩
    rw [hk]
    exact fun z => hn (keyNat.mpr z)
theorem put_setV {l : List Nat} {j : Nat} : putK (setV l) (Sum.inl (j : Int)) (.bl true) = setV (ins l j) := by
  unfold putK ins setV
  by_cases h : j ∈ l
  · rw [if_pos h, if_pos]
    · rw [List.map_map]
      refine List.map_congr_left fun x _ => ?_
      show (if (Sum.inl (x : Int) : L2.Key) = Sum.inl (j : Int) then ((Sum.inl (x : Int) : L2.Key), V.bl true) else (Sum.inl (x : Int), V.bl true)) = _
      split <;> rfl
    · rw [List.any_eq_true]
      exact ⟨(Sum.inl (j : Int), .bl true), List.mem_map.mpr ⟨j, h, rfl⟩, by simp⟩
  · rw [if_neg h, if_neg]
    · rw [List.map_append]
      rfl
    · rw [List.any_eq_true]
      rintro ⟨p, hp, e⟩
      obtain ⟨x, hx, rfl⟩ := List.mem_map.mp hp
      have e := of_decide_eq_true e
      injection e with e
      have : x = j := by omega
      subst this
      exact h hx
/-- one more in a group that is there -/
theorem GH.more {H0 H : Hp} {g : Addr} {G : Gs} {A : List Addr} {W : Nat → Nat → Prop} (h : GH H0 H g G A) (w : GW G W) {n i j : Nat} {l : List Nat} {a : Addr} (h1 : G[i]? = some (n, l)) (h2 : A[i]? = some a) :
    GH H0 (upd H a (.dK (putK (setV l) (Sum.inl (j : Int)) (.bl true)))) g (addG G n j) A := by
  have hn : n ∈ G.map (·.1) := List.mem_map.mpr ⟨_, List.mem_of_getElem? h1, rfl⟩
  have ga : g ≠ a := fun e => h.gA (e ▸ List.mem_of_getElem? h2)
  have eG : addG G n j = G.map (fun x => if x.1 = n then (x.1, ins x.2 j) else x) := if_pos hn
  have el : (addG G n j).length = G.length := by rw [eG, List.length_map]
  refine ⟨by rw [el]; exact h.len, h.nod, h.gA, h.h0, ?_, fun i' x a' q1 q2 => ?_⟩
  · rw [upd_ne ga, h.at_, eG]
    unfold kvG
    rw [List.zipWith_map_left]
    congr 3
    funext x b
    split <;> rfl
  · rw [eG, List.getElem?_map] at q1
    obtain ⟨y, hy, ey⟩ := Option.map_eq_some_iff.mp q1
    by_cases hi : i' = i
    · subst hi
      rw [h2] at q2
      cases q2
      rw [h1] at hy
      cases hy
      rw [if_pos rfl] at ey
      subst ey
      rw [upd_same, put_setV]
    · have ne : a' ≠ a := fun e => hi (by
        subst e
        have l1 := (List.getElem?_eq_some_iff.mp q2).1
        have l2 := (List.getElem?_eq_some_iff.mp h2).1
        exact (List.getElem?_inj l1 h.nod).mp (q2.trans h2.symm))
      have yn : y.1 ≠ n := fun e => hi (by
        have k1 : (G.map (·.1))[i']? = some n := by rw [List.getElem?_map, hy, ← e]; rfl
        have k2 : (G.map (·.1))[i]? = some n := by rw [List.getElem?_map, h1]; rfl
        have l1 := (List.getElem?_eq_some_iff.mp k1).1
        exact (List.getElem?_inj l1 w.keys).mp (k1.trans k2.symm))
      rw [if_neg yn] at ey
      subst ey
      rw [upd_ne ne]
      exact h.in_ i' _ a' hy q2
/-- a new group -/
theorem GH.fresh {H0 H H2 : Hp} {g : Addr} {G : Gs} {A : List Addr} (h : GH H0 H g G A) {n j : Nat} {e : Addr} (hn : n ∉ G.map (·.1)) (he : H e = none) (h0 : H0 e = none) (hg : H2 g = some (.dK (putK (kvG G A) (Sum.inl (n : Int)) (.ref e)))) (ho : ∀ a, a ≠ g → a ≠ e → H2 a = H a)
    (h2 : H2 e = some (.dK (setV [j]))) : GH H0 H2 g (addG G n j) (A ++ [e]) := by
  have eG : addG G n j = G ++ [(n, [j])] := if_neg hn
  have ke : e ∉ A := fun z => by
    obtain ⟨kvs, q⟩ := h.dk (.inr z)
    rw [he] at q
    cases q
  have kg : g ≠ e := fun z => by
    have := h.at_
    rw [z, he] at this
    cases this
  refine ⟨?_, ?_, ?_, ?_, ?_, fun i x a q1 q2 => ?_⟩
  · rw [eG, List.length_append, List.length_append, h.len]
    rfl
  · rw [List.nodup_append]
    exact ⟨h.nod, by simp, fun a ha b hb => by rw [List.mem_singleton.mp hb]; exact fun z => ke (z ▸ ha)⟩
  · rw [List.mem_append, List.mem_singleton, not_or]
    exact ⟨h.gA, kg⟩
  · rintro a (rfl | ha)
    · exact h.h0 _ (.inl rfl)
    · rcases List.mem_append.mp ha with ha | ha
      · exact h.h0 _ (.inr ha)
      · rw [List.mem_singleton.mp ha]
        exact h0
  · rw [hg, eG]
    have e1 : putK (kvG G A) (Sum.inl (n : Int)) (.ref e) = kvG G A ++ [(Sum.inl (n : Int), .ref e)] := by
      unfold putK
      rw [if_neg]
      rw [List.any_eq_true]
      rintro ⟨p, hp, ep⟩
      have : p.1 ∈ (kvG G A).map (·.1) := List.mem_map.mpr ⟨p, hp, rfl⟩
      rw [of_decide_eq_true ep, kvG_keys h.len] at this
      exact hn (keyNat.mpr this)
    rw [e1]
    congr 2
    unfold kvG
    rw [List.zipWith_append h.len.symm]
    rfl
  · by_cases hi : i < G.length
    · rw [eG, List.getElem?_append_left hi] at q1
      rw [List.getElem?_append_left (by rw [h.len]; exact hi)] at q2
      have ma := List.mem_of_getElem? q2
      rw [ho a (fun z => h.gA (z ▸ ma)) fun z => ke (z ▸ ma)]
      exact h.in_ i x a q1 q2
    · rw [eG, List.getElem?_append_right (by omega)] at q1
      rw [List.getElem?_append_right (by rw [h.len]; omega), h.len] at q2
      have hz : i - G.length = 0 := by have := (List.getElem?_eq_some_iff.mp q1).1; simp at this; omega
      rw [hz] at q1 q2
      cases q1
      cases q2
      exact h2
theorem paired_at {α β : Type} {F : α → β → Prop} : ∀ {a : List α} {b : List β} {i : Nat} {y : β}, Paired F a b → b[i]? = some y → ∃ x, a[i]? = some x ∧ F x y
  | _, _, i, y, .nil, h => by simp at h
  | _, _, 0, y, .cons h1 _, h => by
    cases h
    exact ⟨_, rfl, h1⟩
  | _, _, i + 1, y, .cons _ h2, h => by
    obtain ⟨x, q1, q2⟩ := paired_at (i := i) h2 (by simpa using h)
    exact ⟨x, by simpa using q1, q2⟩
section
variable {K : PySem.W.Frag} {σ : L2.St} {H : Hp} {td te : TE} {g : TG} {tb : TS} {D : Ends} {P : Program} {w : World}
/-- for k, v in a new dict's items -/
theorem a_forItems {kvs : List (NestedKey × V)} (h : EN tx P w K td σ H kvs) (Pv : Nat → L2.St → Hp → Prop) (h0 : ∀ dd H1, H dd = none → Ex H H1 → Pv 0 σ H1)
    (hs : ∀ dd o φ Hs i k v T y σ' H', H dd = none → H' dd = some (.frz o φ) → TSt Hs H' → kvs[i]? = some (k, v) → Pv i σ' H' → H' T = none → Tk K H' k y → g (.ref T) σ' (upd H' T (.tup [y, v])) fun σ3 H3 =>
      tb { D with nx := fun σ4 H4 => (H4 dd = some (.frz o φ) ∧ TSt Hs H4) ∧ Pv (i + 1) σ4 H4, ct := fun σ4 H4 => (H4 dd = some (.frz o φ) ∧ TSt Hs H4) ∧ Pv (i + 1) σ4 H4, bk := D.nx } σ3 H3)
    (hd : ∀ σ' H', Pv kvs.length σ' H' → D.nx σ' H') : tFor (iItemsN P w K td) g tb D σ H := h H (Ex.refl H) _ fun dd H1 hdd e1 n => ⟨dd, kvs, rfl, n, fun o xs rel => by
  have hl : kvs.length = xs.length := Paired.length rel
  have eM : Ex H (upd H1 dd (.frz o (.ext (NRaw P w dd xs)))) := Ex.mut e1 hdd
  have t1 : TSt H1 (upd H1 dd (.frz o (.ext (NRaw P w dd xs)))) := TSt.upd (TSt.refl H1) fun ys q => by
    obtain ⟨φ, hφ⟩ := n.some_
    rw [hφ] at q
    cases q
  refine for_it walk_itemsN (fun i σ' H' => (H' dd = some (.frz o (.ext (NRaw P w dd xs))) ∧ TSt H1 H') ∧ Pv i σ' H') ⟨⟨upd_same, t1⟩, h0 dd _ hdd eM⟩ (fun i σ' H' _ p => p.1.1) (fun i x σ' H3 H4 hi p y => ?_) fun σ' H' p => hd σ' H' (by rw [hl]; exact p.2)
  obtain ⟨⟨p1, p2⟩, p3⟩ := p
  obtain ⟨T, q, v, hq, rv, rfl, nT, rfl⟩ := y
  obtain ⟨⟨k, v0⟩, hk, hr⟩ := paired_at rel hq
  obtain ⟨ek, ⟨tk, _⟩, rv0⟩ := hr
  have ev := rv.inj rv0
  subst ev
  exact hs dd _ _ H1 i k v T (.ref q.2.1) σ' H3 hdd p1 p2 hk p3 nT (tk.to p2)⟩
end
end Mk
set_option Elab.async false
set_option linter.all false
set_option maxRecDepth 100000
set_option maxHeartbeats 400000
/-! alike of the program: the walk -/
namespace Mk
open PySem PySem.Spec PyProof.Rows L2 Evl
theorem own_val {L : Lay} (hF : Free L) {q : Piece} {j : Nat} (h : (q, j) ∈ numd 0 L) : valV (shV home L) (shapeK home q) = some (.int (j : Nat)) := by
  refine valV_mem ?_ ?_
  · rw [shV_fst]
    exact shapes_nodup hF home
  · unfold shV shapesL
    rw [List.map_map]
    exact List.mem_map.mpr ⟨(q, j), h, rfl⟩
theorem shV_at {L : Lay} {m : P5} {i : Nat} {k : NestedKey} {v : V} (h : (shV m L)[i]? = some (k, v)) : ∃ p n, (numd 0 L)[i]? = some (p, n) ∧ k = shapeK m p ∧ v = .int (n : Nat) := by
  unfold shV shapesL at h
  rw [List.map_map, List.getElem?_map] at h
  obtain ⟨q, hq, e⟩ := Option.map_eq_some_iff.mp h
  cases e
  exact ⟨q.1, q.2, hq, rfl, rfl⟩
/-- the pairs of the first i pieces -/
def PRt (L : Lay) (m : P5) (i n j : Nat) : Prop := ∃ t p q, t < i ∧ (numd 0 L)[t]? = some (p, n) ∧ (q, j) ∈ numd 0 L ∧ shapeK m p = shapeK home q
theorem prt_all {L : Lay} {m : P5} {n j : Nat} : PRt L m (numd 0 L).length n j ↔ PR L m n j := by
  constructor
  · rintro ⟨t, p, q, _, h1, h2, h3⟩
    exact ⟨p, q, List.mem_of_getElem? h1, h2, h3⟩
  · rintro ⟨p, q, h1, h2, h3⟩
    obtain ⟨t, ht⟩ := List.getElem?_of_mem h1
    exact ⟨t, p, q, (List.getElem?_eq_some_iff.mp ht).1, ht, h2, h3⟩
theorem prt_succ {L : Lay} (hF : Free L) {m : P5} {i : Nat} {p q : Piece} {n j : Nat} (h : (numd 0 L)[i]? = some (p, n)) (hq : (q, j) ∈ numd 0 L) (e : shapeK m p = shapeK home q) (a b : Nat) : PRt L m (i + 1) a b ↔ PRt L m i a b ∨ (a = n ∧ b = j) := by
  constructor
  · rintro ⟨t, p', q', h1, h2, h3, h4⟩
    by_cases ht : t < i
    · exact .inl ⟨t, p', q', ht, h2, h3, h4⟩
    · have : t = i := by omega
      subst this
      rw [h] at h2
      cases h2
      exact .inr ⟨rfl, shape_one hF h3 hq (h4.symm.trans e)⟩
  · rintro (⟨t, p', q', h1, h2, h3, h4⟩ | ⟨rfl, rfl⟩)
    · exact ⟨t, p', q', by omega, h2, h3, h4⟩
    · exact ⟨i, p, q, by omega, h, hq, e⟩
def linkT (L : Lay) (i n j : Nat) : Prop := ∃ m ∈ (mots L).take i, PR L m n j
theorem linkT_all {L : Lay} {n j : Nat} : linkT L (mots L).length n j ↔ linked L n j := by
  unfold linkT linked
  rw [List.take_length]
theorem linkT_succ {L : Lay} {i : Nat} (hi : i < (mots L).length) (n j : Nat) : linkT L (i + 1) n j ↔ linkT L i n j ∨ PR L ((mots L).getD i home) n j := by
  unfold linkT
  rw [List.take_add_one, get_lt (d := home) hi]
  simp only [Option.toList, List.mem_append, List.mem_singleton]
  constructor
  · rintro ⟨m, h | rfl, h2⟩
    · exact .inl ⟨m, h, h2⟩
    · exact .inr h2
  · rintro (⟨m, h, h2⟩ | h)
    · exact ⟨m, .inl h, h2⟩
    · exact ⟨_, .inr rfl, h⟩
theorem mots_len (L : Lay) : (mots L).length ≤ 4 * L.length := by
  have h := eps_len L
  unfold mots
  split
  · simp
  · rename_i e es he
    rw [(sortBy_perm hmK _).length_eq]
    have h2 := motsOf_len L e (e :: es) []
    rw [he] at h
    simp only [List.length_nil] at h2
    omega
/-- sorted numbers of a group -/
theorem asc_ints {L : Lay} {n : Nat} {l : List Nat} {ys : List Int} (hp : ys.Perm (l.map fun j : Nat => (j : Int))) (hs : ys.Pairwise (· ≤ ·)) (hn : l.Nodup) (hm : ∀ j, j ∈ l ↔ linked L n j) : ys = (grp L n).map fun j : Nat => (j : Int) := by
  have h0 : ∀ y ∈ ys, 0 ≤ y := fun y hy => by
    obtain ⟨j, _, rfl⟩ := List.mem_map.mp (hp.mem_iff.mp hy)
    omega
  have e1 : ys = (ys.map Int.toNat).map fun j : Nat => (j : Int) := by
    rw [List.map_map]
    refine (List.map_id ys).symm.trans (List.map_congr_left fun y hy => ?_)
    have := h0 y hy
    show y = ((y.toNat : Nat) : Int)
    omega
  have hnd : ys.Nodup := by
    refine hp.nodup_iff.mpr ?_
    rw [List.Nodup, List.pairwise_map]
    exact List.Pairwise.imp (fun {a b} ne e => ne (by omega)) hn
  have hlt : (ys.map Int.toNat).Pairwise (· < ·) := by
    rw [List.pairwise_map]
    have h2 : ys.Pairwise fun a b => a ≤ b ∧ a ≠ b := List.pairwise_and_iff.mpr ⟨hs, hnd⟩
    refine h2.imp_of_mem fun {a b} ha hb h => ?_
    have := h0 a ha
    have := h0 b hb
    have := h.1
    have := h.2
    omega
  rw [e1]
  congr 1
  refine grp_of hlt fun j => ?_
  rw [← hm, List.mem_map]
  constructor
  · rintro ⟨y, hy, rfl⟩
    obtain ⟨k, hk, rfl⟩ := List.mem_map.mp (hp.mem_iff.mp hy)
    simpa using hk
  · intro hj
    exact ⟨(j : Int), hp.mem_iff.mpr (List.mem_map.mpr ⟨j, hj, rfl⟩), by simp⟩
def fAlike (ks : List NestedKey) (k : NestedKey) : Prop := ∃ L : Lay, Free L ∧ L.length ≤ 60 ∧ ks = [.tup (L.map itemK)] ∧ k = .tup (setsK L)
section
variable {K : PySem.W.Frag} {σ : L2.St} {H : Hp} {te : TE} {R : Tr}
theorem setV_keys (l : List Nat) : (setV l).map (·.1) = (l.map fun j : Nat => (j : Int)).map Sum.inl := by
  unfold setV
  rw [List.map_map, List.map_map]
  rfl
/-- tuple(sorted(group)) -/
theorem ed_group {L : Lay} {n : Nat} {l : List Nat} {a : Addr} (ha : ED tx te σ H ⟨fun H v => v = .ref a ∧ H a = some (.dK (setV l)), fun e h => ⟨h.1, e _ _ h.2⟩⟩) (hn : l.Nodup) (hm : ∀ j, j ∈ l ↔ linked L n j) (hl : l.length < 64)
    (r : List V → Hp → VK → Prop) (hr : ∀ xs H Q, (∃ (a : Addr) (kvs : List (L2.Key × V)) (ks : List Int), xs = [.ref a] ∧ Rd H a (.dK kvs) ∧ kvs.map (·.1) = ks.map Sum.inl ∧ ks.length < 64 ∧
      ∀ (ys : List Int) (p : Addr), ys.Perm ks → ys.Pairwise (· ≤ ·) → H p = none → Q (.ref p) (upd H p (.lst (ys.map V.int)))) → r xs H Q) :
    ELk tx K (tCB r (tCons te tNil)) σ H ((grp L n).map fun j : Nat => .num (j : Int)) := fun H1 e Q q => ha H1 e _ fun v H2 e2 ⟨ev, h2⟩ => by
  refine hr _ _ _ ⟨a, setV l, l.map fun j : Nat => (j : Int), by rw [ev], .inl h2, setV_keys l, by rw [List.length_map]; exact hl, fun ys p hp hs hpn => ?_⟩
  have e3 := asc_ints hp hs hn hm
  refine q p (ys.map V.int) _ (fresh_back e2 hpn) (Ex.trans e2 (Ex.new hpn)) upd_same ?_
  have e5 : ((grp L n).map fun j : Nat => NestedKey.num (j : Int)) = ((grp L n).map fun j : Nat => (j : Int)).map NestedKey.num := by rw [List.map_map]; rfl
  rw [e3]
  show Tks K _ ((grp L n).map fun j : Nat => NestedKey.num (j : Int)) _
  rw [e5]
  exact Tks.ints _
/-- list(d.values()) -/
theorem el_vals {kvs : List (L2.Key × V)} {g : Addr} (h : ED tx te σ H ⟨fun H v => v = .ref g ∧ H g = some (.dK kvs), fun e h => ⟨h.1, e _ _ h.2⟩⟩) : EL tx (tCB rListVals (tCons (tBM0 K "dict" rVals te) tNil)) σ H fun _ xs => xs = kvs.map (·.2) := fun H1 e Q q =>
  h H1 e _ fun v H2 e2 ⟨ev, h2⟩ => by
    subst ev
    refine ⟨.inr (.inr (.inl ⟨rfl, .inl ⟨kvs, h2⟩⟩)), g, kvs, rfl, rfl, h2, fun p hp => ⟨p, g, kvs, rfl, upd_same, ?_, fun l hl => ?_⟩⟩
    · rw [upd_ne (ne_of_none h2 hp)]
      exact h2
    · have hl2 : H2 l = none := fresh_back (Ex.new hp) hl
      exact q l _ _ (fresh_back e2 hl2) (Ex.trans e2 ((Ex.new hp).trans (Ex.new hl))) upd_same rfl
end
end Mk
set_option Elab.async false
set_option linter.all false
set_option maxRecDepth 100000
set_option maxHeartbeats 400000
/-! alike of the program: the walk's end -/
namespace Mk
open PySem PySem.Spec PyProof.Rows L2 Evl
theorem a_setD {i : Nat} {tz : TS} {D : Ends} {σ : L2.St} {H : Hp} (k : ∀ p, H p = none → tz D (σ.set i (some (.ref p))) (upd H p (.dK []))) : tSeq (tAsg tDNewK (gName i)) tz D σ H := fun p hp => k p hp
theorem group_len {L : Lay} {n : Nat} {l : List Nat} (hn : l.Nodup) (hm : ∀ j, j ∈ l ↔ linked L n j) : l.length ≤ L.length := by
  have hg : (grp L n).Nodup := List.Pairwise.imp (fun {a b} h => Nat.ne_of_lt h) (grp_pw L n)
  rw [(perm_same hn hg fun j => (hm j).trans mem_grp.symm).length_eq]
  exact grp_len L n
theorem gK_depth (l : List Nat) : (gK l).depth ≤ 8 := by
  refine Nat.le_trans (keyDepth_tup (n := 0) fun k hk => ?_) (by decide)
  obtain ⟨j, _, rfl⟩ := List.mem_map.mp hk
  simp [NestedKey.depth]
theorem gK_ddepth (l : List Nat) : (gK l).data.depth ≤ 1 := by
  refine depth_tup (n := 0) fun k hk => ?_
  obtain ⟨j, _, rfl⟩ := List.mem_map.mp hk
  simp [NestedKey.data, PyData.depth]
theorem numd_one {L : Lay} {n : Nat} : (∃ j, linked L n j) ↔ ∃ p, (p, n) ∈ numd 0 L := by
  constructor
  · rintro ⟨j, m, _, p, q, h, _⟩
    exact ⟨p, h⟩
  · rintro ⟨p, h⟩
    exact ⟨n, linked_self h⟩
theorem GH.nil {H0 H : Hp} {g : Addr} (hg : H0 g = none) (h : H g = some (.dK [])) : GH H0 H g [] [] := by
  refine ⟨rfl, List.nodup_nil, by simp, fun a z => ?_, h, fun i x a q => by simp at q⟩
  rcases z with rfl | z
  · exact hg
  · cases z
theorem zip_snd : ∀ {G : Gs} {A : List Addr}, A.length = G.length → List.zipWith (fun (_ : Nat × List Nat) a => V.ref a) G A = A.map V.ref
  | [], [], _ => rfl
  | [], _ :: _, h => by simp at h
  | _ :: _, [], h => by simp at h
  | x :: G, a :: A, h => by
    show _ :: List.zipWith _ G A = _
    rw [zip_snd (by simpa using h)]
    rfl
theorem EL.imp2 {te : TE} {σ : L2.St} {H : Hp} {P P' : Hp → List V → Prop} (h : EL tx te σ H P) (i : ∀ H2 xs, Ex H H2 → P H2 xs → P' H2 xs) : EL tx te σ H P' := fun H1 e Q q => h H1 e Q fun p xs H2 hp e2 hx t => q p xs H2 hp e2 hx (i H2 xs (Ex.trans e e2) t)
section
variable {P : Program} {w : World} {K : PySem.W.Frag} {mg : Str → Option Value} {base : Heap} {d : Da}
theorem ok_alike (T : Tx w K mg d) : FnOk P w K mg base CX0 8 (d.f 11) (d.fd 11) ["layout"] (spK K fAlike) := by
  have nd := sc_alike.nd
  refine T.alike.fn.ok sc_alike (fun vs H Q E h => len_of (fun ks k ⟨_, _, _, e, _⟩ => by rw [e]; rfl) h) (fun cdv A outer s H vs Q E hr h => ?_)
  obtain ⟨_, _, ⟨L, hF, hL, rfl, rfl⟩, ht, q⟩ := h
  obtain ⟨v1, rfl, h1⟩ := tks1 ht
  refine ⟨_, (pss_cons (ps_set (i := 1) nd rfl (.inl rfl) (pc T.shapes (ok_shapes T) (hr.mono (by decide)) (pa_cons (pv 0) (pa_cons (pe_op op_catT (pe_glob (by rfl) T.NOWHERE T.rNOWHERE) (pe_tup (pa_cons pe_int pa_nil))) pa_nil))))
      (pss_cons (ps_set (i := 2) nd rfl (.inl rfl) pe_dnewK)
      (pss_cons (ps_for PassesOwn.never rfl (pi_tup (pc T.motions (ok_motions T) (hr.mono (by decide)) (pa_cons (pv 0) pa_nil))) (pg_name (i := 3) nd rfl (.inl rfl)) (pss_one (ps_for PassesOwn.never rfl (pi_itemsN (pc T.shapes (ok_shapes T) (hr.mono (by decide)) (pa_cons (pv 0) (pa_cons (pv 3) pa_nil)))) (pg_tup rfl (pgs_cons (pg_name (i := 6) nd rfl (.inl rfl)) (pgs_cons (pg_name (i := 7) nd rfl (.inl rfl)) pgs_nil))) (pss_one (ps_dput (hu_of hr) (pe_dsetd (pv 2) (pv 7) pe_dnewK ⟨by rfl, by rfl, by rfl, by rfl⟩) (pe_nget hr.units (pv 1) (pv 6) (fun _ _ => rfl)) pe_bl rfl)))))
      (pss_cons (ps_set (i := 4) nd rfl (.inl rfl) pe_dnewN)
      (pss_cons (ps_for PassesOwn.never rfl (pi_list (pe_callTy (cr_listVals rfl) (by rfl) T.list PyProof.Rows.boot_list (pa_cons (pe_bm0 PySem.F.plainAttrs_dict PySem.F.slot_dict_values PySem.F.type_dict_values mt_vals (pv 2)) pa_nil))) (pg_name (i := 5) nd rfl (.inl rfl)) (pss_one (ps_nput hr.units (pv 4) (pe_callTy call_tuple_of (by rfl) T.tuple PyProof.Rows.boot_tuple (pa_cons (pe_callB (call_sortedDI rfl) (by rfl) T.sorted PyProof.Rows.boot_sorted (pa_cons (pv 5) pa_nil)) pa_nil)) pe_bl rfl)))
      (pss_one (ps_ret (pe_callTy call_tuple_of (by rfl) T.tuple PyProof.Rows.boot_tuple (pa_cons (pe_callB (cr_sortND hr.units rfl) (by rfl) T.sorted PyProof.Rows.boot_sorted (pa_cons (pv 4) pa_nil)) pa_nil))))))))), ?_⟩
  -- own
  refine a_setN (P := P) (w := w) (K := K) (en_shapes (P := P) (w := w) (m := home) hF (by omega) (ea_cons (ed_key (n := 0) rfl h1) (ea_one (ed_pose (K := K) (p := P4.nul) (n := 0) rfl (ed_c (d := dK tx K (posK P4.nul)) (T.kNOWHERE _)) ed_int)))) fun o H1 ho e1 no => ?_
  -- groups
  refine a_setD fun g hg => ?_
  have e12 : Ex H1 (upd H1 g (.dK [])) := Ex.new hg
  have oko : H1 o ≠ none := by
    obtain ⟨φ, hφ⟩ := no.some_
    rw [hφ]
    simp
  have ml := mots_len L
  refine a_forS (Re := tx) (R := tO fun a => H1 a ≠ none) (ei_tup (K := K) (ks := (mots L).map poseK) (ed_callK [.tup (L.map itemK)] ⟨L, hF, by omega, rfl, rfl⟩ (ea_one (ed_key (n := 0) rfl (h1.ex (e1.trans e12)))))) (fun _ e => (tO _).ex e)
    (fun i σ H => ∃ y3 y4 y5 y6 y7 G A, σ = [some v1, some (.ref o), some (.ref g), y3, y4, y5, y6, y7] ∧ GH H1 H g G A ∧ GW G (linkT L i))
    (fun H2 e2 => ⟨none, none, none, none, none, [], [], rfl, .nil hg (e2 _ _ upd_same), GW.nil.iff fun n j => by simp [linkT]⟩) (fun Hb eb i y σ' H' H2 hi e2 hP e3 hy => ?_) fun σ' H' e2 hP => ?_
  · -- one motion
    obtain ⟨y3, y4, y5, y6, y7, G, A, rfl, gh, gw⟩ := hP
    rw [List.length_map] at hi
    rw [getD_map (d := home) (f := poseK) hi] at hy
    have hm : isMot L ((mots L).getD i home) := mots_isMot (List.mem_of_getElem? (get_lt (d := home) hi))
    generalize hmm : (mots L).getD i home = m at hy hm
    show tFor (iItemsN P w K (tCall (spShapes P w K) [] E0 (tCons (tVar 0) (tCons (tVar 3) tNil)))) (gTup K 2 (gCons (gName 6) (gCons (gName 7) gNil))) _ _ [some v1, some (.ref o), some (.ref g), some y, y4, y5, y6, y7] H2
    have tb2 : TSt H1 H2 := ((TSt.ex e12).trans (((tO _).ts eb).trans ((tO _).ts e2))).trans (TSt.ex e3)
    have hR2 : (tO fun a => H1 a ≠ none).r Hb H2 := (tO _).trans e2 ((tO _).ex e3)
    refine a_forItems (P := P) (w := w) (K := K) (en_shapes (P := P) (w := w) hF (by omega) (ea_cons (ed_key (n := 0) rfl ((h1.ex e1).to tb2)) (ea_one (ed_key (n := 3) rfl hy))))
      (fun k σ H => (tO fun a => H1 a ≠ none).r Hb H ∧ ∃ y4 y5 y6 y7 G A, σ = [some v1, some (.ref o), some (.ref g), some y, y4, y5, y6, y7] ∧ GH H1 H g G A ∧ GW G fun a b => linkT L i a b ∨ PRt L m k a b)
      (fun dd H3 _ e4 => ⟨(tO _).trans hR2 ((tO _).ex e4), y4, y5, y6, y7, G, A, rfl, gh.ex (Ex.trans e3 e4), gw.iff fun n j => by simp [PRt]⟩) (fun dd od φ Hs k kk v T y' σ' H3 hdd hfz hts hkv hP hT hk => ?_) fun σ' H3 hP => ?_
    · obtain ⟨r3, z4, z5, z6, z7, G, A, rfl, gh, gw⟩ := hP
      obtain ⟨p, n, hpn, rfl, rfl⟩ := shV_at hkv
      obtain ⟨q', j, hqj, eqs⟩ := mot_piece hm (List.mem_of_getElem? hpn)
      refine ⟨T, _, rfl, .inl (.inl upd_same), rfl, _, _, rfl, _, _, rfl, rfl, ?_⟩
      have eT : Ex H3 (upd H3 T (.tup [y', .int (n : Nat)])) := Ex.new hT
      generalize hHT : upd H3 T (.tup [y', .int (n : Nat)]) = HT at eT
      have ghT := gh.ex eT
      refine ⟨.ref g, rfl, g, rfl, .inl ⟨_, .inl ghT.at_⟩, .int (n : Nat), rfl, fun e he => ?_⟩
      have e4 : Ex HT (upd HT e (.dK [])) := Ex.new he
      have gh4 := ghT.ex e4
      have r4 : (tO fun a => H1 a ≠ none).r Hb (upd HT e (.dK [])) := (tO _).trans r3 ((tO _).ex (Ex.trans eT e4))
      have fz4 : (upd HT e (.dK [])) dd = some (.frz od φ) := (Ex.trans eT e4) _ _ hfz
      have ts4 : TSt Hs (upd HT e (.dK [])) := hts.trans (TSt.ex (Ex.trans eT e4))
      have nd4 : ∀ H', (tO fun a => H1 a ≠ none).r Hb H' → ND P w K H' o (shV home L) := fun H' r => by
        obtain ⟨o2, ex, _, z⟩ := (dN (tO fun a => H1 a ≠ none) P w K (shV home L)).mono ((tO _).trans ((tO _).ex e12) ((tO _).trans eb r)) ⟨o, rfl, oko, no⟩
        cases ex
        exact z
      have hkk : Tk K (upd HT e (.dK [])) (shapeK m p) y' := hk.ex (Ex.trans eT e4)
      have hsz : ∀ kvs : List (L2.Key × V), kvs.length ≤ 1000 → kvs.length < sizeLine := fun kvs h => small1000 h
      have lenG : (kvG G A).length ≤ 1000 := by
        have hk := congrArg List.length (kvG_keys gh.len)
        rw [List.length_map, List.length_map] at hk
        have hsub : (G.map (·.1)).length ≤ L.length := by
          have hall : ∀ x ∈ G.map (·.1), x < L.length := fun x hx => by
            obtain ⟨j', h⟩ := (gw.key x).mp hx
            rcases h with ⟨m', hm', p', q'', h1', _⟩ | ⟨t, p', q'', _, h1', _⟩
            · exact numd_lt h1'
            · exact numd_lt (List.mem_of_getElem? h1')
          have := List.Nodup.length_le_of_subset gw.keys (l₂ := List.range L.length) fun x hx => List.mem_range.mpr (hall x hx)
          rw [List.length_range] at this
          exact this
        rw [List.length_map] at hsub
        omega
      refine ⟨kvG G A, Sum.inl (n : Int), gh4.at_, rfl, hsz _ lenG, fun v hv => ?_, fun hv => ?_⟩
      · -- there
        rcases gh4.find gw n with ⟨_, h0⟩ | ⟨i', l, a, hg1, ha1, _, h0⟩
        · rw [h0] at hv
          cases hv
        rw [h0] at hv
        cases hv
        have hal := gh4.in_ i' _ a hg1 ha1
        refine ⟨.ref o, rfl, y', rfl, o, shV home L, shapeK m p, .int (j : Nat), rfl, nd4 _ r4, hkk, keyDepth_shp _ _, ⟨_, rfl⟩, by rw [eqs]; exact own_val hF hqj, a, _, rfl, .inl ⟨setV l, Sum.inl (j : Int), hal, rfl, hsz _ ?_, rfl⟩, ?_⟩
        · have hnl := gw.nod _ (List.mem_of_getElem? hg1)
          have hall : ∀ x ∈ l, x < L.length := fun x hx => by
            rcases (gw.mem _ (List.mem_of_getElem? hg1) x).mp hx with ⟨m', hm', p', q'', _, h2', _⟩ | ⟨t, p', q'', _, _, h2', _⟩
            · exact numd_lt h2'
            · exact numd_lt h2'
          have hln : l.length ≤ L.length := by
            have h7 := List.Nodup.length_le_of_subset hnl (l₂ := List.range L.length) fun x hx => List.mem_range.mpr (hall x hx)
            rw [List.length_range] at h7
            exact h7
          unfold setV
          rw [List.length_map]
          omega
        · have ad : dd ≠ a := fun z => by
            rw [z, hal] at fz4
            cases fz4
          have nt : ∀ xs, (upd HT e (.dK [])) a ≠ some (.tup xs) := fun xs z => by
            rw [hal] at z
            cases z
          refine ⟨⟨by rw [upd_ne ad]; exact fz4, TSt.upd ts4 nt⟩, tO_upd r4 (fun z => z (gh4.h0 a (.inr (List.mem_of_getElem? ha1)))) nt, _, _, _, _, addG G n j, A, rfl, gh4.more gw hg1 ha1, ?_⟩
          refine (gw.add n j).iff fun a b => ?_
          rw [prt_succ hF hpn hqj eqs, or_assoc]
      · -- new
        have hnk : n ∉ G.map (·.1) := by
          rcases gh4.find gw n with ⟨hnk, _⟩ | ⟨i', l, a, hg1, ha1, _, h0⟩
          · exact hnk
          · rw [h0] at hv
            cases hv
        have ge : g ≠ e := fun z => by
          have := ghT.at_
          rw [z, he] at this
          cases this
        have gd : dd ≠ g := fun z => by
          have := gh4.at_
          rw [← z, fz4] at this
          cases this
        have ed : dd ≠ e := fun z => by
          have h5 : HT dd = some (.frz od φ) := eT _ _ hfz
          rw [z, he] at h5
          cases h5
        have ntg : ∀ xs, (upd HT e (.dK [])) g ≠ some (.tup xs) := fun xs z => by
          rw [gh4.at_] at z
          cases z
        have r5 := tO_upd (o := .dK (putK (kvG G A) (Sum.inl (n : Int)) (.ref e))) r4 (fun z => z (gh4.h0 g (.inl rfl))) ntg
        have ts5 : TSt Hs (upd (upd HT e (.dK [])) g (.dK (putK (kvG G A) (Sum.inl (n : Int)) (.ref e)))) := TSt.upd ts4 ntg
        have he5 : (upd (upd HT e (.dK [])) g (.dK (putK (kvG G A) (Sum.inl (n : Int)) (.ref e)))) e = some (.dK []) := by rw [upd_ne ge.symm, upd_same]
        have nte : ∀ xs, (upd (upd HT e (.dK [])) g (.dK (putK (kvG G A) (Sum.inl (n : Int)) (.ref e)))) e ≠ some (.tup xs) := fun xs z => by
          rw [he5] at z
          cases z
        have e10 : H1 e = none := fresh_back e12 (eb.2.2 e (r3.2.2 e (fresh_back eT he)))
        have hk5 : Tk K (upd (upd HT e (.dK [])) g (.dK (putK (kvG G A) (Sum.inl (n : Int)) (.ref e)))) (shapeK m p) y' := hkk.to (TSt.upd (TSt.refl _) ntg)
        refine ⟨.ref o, rfl, y', rfl, o, shV home L, shapeK m p, .int (j : Nat), rfl, nd4 _ r5, hk5, keyDepth_shp _ _, ⟨_, rfl⟩, by rw [eqs]; exact own_val hF hqj, e, _, rfl, .inl ⟨[], Sum.inl (j : Int), he5, rfl, hsz _ (by simp), rfl⟩, ?_⟩
        refine ⟨⟨by rw [upd_ne ed, upd_ne gd]; exact fz4, TSt.upd ts5 nte⟩, tO_upd r5 (fun z => z e10) nte, _, _, _, _, addG G n j, A ++ [e], rfl, ghT.fresh hnk he e10 ?_ ?_ ?_, ?_⟩
        · rw [upd_ne ge, upd_same]
        · intro a n1 n2
          rw [upd_ne n2, upd_ne n1, upd_ne n2]
        · rw [upd_same]
          have := put_setV (l := []) (j := j)
          have e8 : ins ([] : List Nat) j = [j] := by simp [ins]
          rw [e8] at this
          exact congrArg (fun z => some (HO.dK z)) this
        · refine (gw.add n j).iff fun a b => ?_
          rw [prt_succ hF hpn hqj eqs, or_assoc]
    · obtain ⟨r3, z4, z5, z6, z7, G, A, rfl, gh, gw⟩ := hP
      refine ⟨r3, _, _, _, _, _, G, A, rfl, gh, gw.iff fun a b => ?_⟩
      rw [linkT_succ hi, hmm]
      have e9 : (shV m L).length = (numd 0 L).length := by
        unfold shV shapesL
        rw [List.length_map, List.length_map]
      rw [e9, prt_all]
  · -- found
    obtain ⟨y3, y4, y5, y6, y7, G, A, rfl, gh, gw⟩ := hP
    rw [List.length_map] at gw
    have gw := gw.iff fun n j => linkT_all (L := L)
    have eA : Ex H H' := fun a u h => e2.1 a u (show H1 a ≠ none by rw [e1 a u h]; simp) (e12 a u (e1 a u h))
    refine a_setN (P := P) (w := w) (K := K) en_new fun f H3 hf e3 hn => ?_
    have gh3 := gh.ex e3
    have lenAG : (kvG G A).map (·.2) = A.map V.ref := by
      unfold kvG
      rw [List.map_zipWith]
      exact zip_snd gh.len
    have evs := el_vals (te := tVar 2) (σ := [some v1, some (.ref o), some (.ref g), y3, some (.ref f), y5, y6, y7]) (H := H3) (K := K) (kvs := kvG G A) (g := g) (ed_v (v := .ref g) rfl ⟨rfl, gh3.at_⟩)
    have dead : ∀ i (a : Addr), A[i]? = some a → H3 a = some (.dK (setV (G.getD i (0, [])).2)) := fun i a ha => by
      have hl : i < G.length := by have := (List.getElem?_eq_some_iff.mp ha).1; have := gh.len; omega
      exact gh3.in_ i _ a (get_lt hl) ha
    have naf : ∀ a ∈ A, a ≠ f := fun a ha z => by
      obtain ⟨kvs, q⟩ := gh.dk (.inr ha)
      rw [z, hf] at q
      cases q
    let ds : Nat → Ds (tE f) := fun i => ⟨fun H v => ∃ a, v = .ref a ∧ a ≠ f ∧ H a = some (.dK (setV (G.getD i (0, [])).2)), fun {H H' v} e ⟨a, p1, p2, p3⟩ => ⟨a, p1, p2, (tE f).keep e p2 p3⟩⟩
    have hei : EI tx (tE f) (iList K (tCB rListVals (tCons (tBM0 K "dict" rVals (tVar 2)) tNil))) [some v1, some (.ref o), some (.ref g), y3, some (.ref f), y5, y6, y7] H3 G.length ds := by
      refine ei_listP (EL.imp2 evs fun H4 xs e4 h => ?_) fun p hp => ?_
      · rw [h, lenAG]
        refine ⟨by rw [List.length_map]; exact gh.len, fun i x hx => ?_⟩
        rw [List.getElem?_map] at hx
        obtain ⟨a, ha, rfl⟩ := Option.map_eq_some_iff.mp hx
        exact ⟨a, rfl, naf a (List.mem_of_getElem? ha), e4 _ _ (dead i a ha)⟩
      · obtain ⟨φ, hφ⟩ := hn.some_
        exact fun z => by rw [z, hφ] at hp; cases hp
    have lenG : G.length ≤ 60 := by
      have hall : ∀ x ∈ G.map (·.1), x < L.length := fun x hx => by
        obtain ⟨p, hp⟩ := numd_one.mp ((gw.key x).mp hx)
        exact numd_lt hp
      have := List.Nodup.length_le_of_subset gw.keys (l₂ := List.range L.length) fun x hx => List.mem_range.mpr (hall x hx)
      rw [List.length_range, List.length_map] at this
      omega
    refine a_forS (Re := tx) (R := tE f) hei (fun _ e => (tE f).ex e)
      (fun i σ H => ∃ y3 y5 y6 y7 D, σ = [some v1, some (.ref o), some (.ref g), y3, some (.ref f), y5, y6, y7] ∧ ND P w K H f (D.map fun k => (k, V.bl true)) ∧ D.Nodup ∧ D.length ≤ i ∧ ∀ k, k ∈ D ↔ ∃ x ∈ G.take i, k = gK (grp L x.1))
      (fun H4 e4 => ⟨y3, y5, y6, y7, [], rfl, hn.ex e4, List.nodup_nil, Nat.le_refl _, fun k => by simp⟩) (fun Hb eb i y σ' H4 H5 hi e4 hP e5 hy => ?_) fun σ' H4 e4 hP => ?_
    · obtain ⟨z3, z5, z6, z7, D, rfl, hnd, hdn, hdl, hdm⟩ := hP
      obtain ⟨a, rfl, naf', ha⟩ := hy
      have hgi : G[i]? = some (G.getD i (0, [])) := get_lt hi
      generalize hx : G.getD i (0, []) = x at ha hgi
      have hxm := List.mem_of_getElem? hgi
      have hxl := group_len (gw.nod x hxm) (gw.mem x hxm)
      refine a_nput (K := K) (P := P) (w := w) (k := gK (grp L x.1)) (dv := dV tx (.bl true)) (hnd.ex e5) (ed_c rfl) (ed_ref (n := 4) rfl) (ed_tupOf _ (fun _ _ _ h => h) (ed_group (a := a) (L := L) (n := x.1) (l := x.2) (ed_v (v := .ref a) rfl ⟨rfl, ha⟩) (gw.nod x hxm) (gw.mem x hxm) (by omega) _ (fun _ _ _ h => h)))
        (gK_depth _) ⟨_, rfl⟩ (by rw [List.length_map]; omega) fun v H6 H7 e6 hv n6 n7 o7 => ?_
      have hv : v = .bl true := hv
      subst hv
      have e7 := put_same (f := fun k : NestedKey => k) (fun a b h => h) (l := D) (a := gK (grp L x.1)) (v := V.bl true)
      rw [e7] at n7
      refine ⟨tE_nput ((tE f).trans e4 ((tE f).ex (Ex.trans e5 e6))) n6 n7 o7, _, _, _, _, ins D (gK (grp L x.1)), rfl, n7, nodup_ins hdn, ?_, fun k => ?_⟩
      · unfold ins
        split
        · omega
        · rw [List.length_append, List.length_singleton]
          omega
      · rw [mem_ins, hdm, List.take_add_one, hgi]
        simp only [Option.toList, List.mem_append, List.mem_singleton]
        constructor
        · rintro (⟨z, h1, h2⟩ | h)
          · exact ⟨z, .inl h1, h2⟩
          · exact ⟨x, .inr rfl, h⟩
        · rintro ⟨z, h1 | rfl, h2⟩
          · exact .inl ⟨z, h1, h2⟩
          · exact .inr h2
    · obtain ⟨z3, z5, z6, z7, D, rfl, hnd, hdn, hdl, hdm⟩ := hP
      rw [List.take_length] at hdm
      have hD : ∀ k, k ∈ D ↔ ∃ q ∈ numd 0 L, k = gK (grp L q.2) := fun k => by
        rw [hdm]
        constructor
        · rintro ⟨x, hx, rfl⟩
          obtain ⟨p, hp⟩ := numd_one.mp ((gw.key x.1).mp (List.mem_map.mpr ⟨x, hx, rfl⟩))
          exact ⟨(p, x.1), hp, rfl⟩
        · rintro ⟨q', hq', rfl⟩
          obtain ⟨x, hx, e⟩ := List.mem_map.mp ((gw.key q'.2).mpr (numd_one.mpr ⟨q'.1, hq'⟩))
          exact ⟨x, hx, by rw [e]⟩
      have hs := sets_of hdn hD
      have eD : (D.map fun k => ((k, V.bl true) : NestedKey × V)).map (·.1) = D := by
        rw [List.map_map]
        exact List.map_id D
      have so : Sorty D := ⟨fun x hx y hy => by
        obtain ⟨q1, _, rfl⟩ := (hD x).mp hx
        obtain ⟨q2, _, rfl⟩ := (hD y).mp hy
        exact alike_gK _ _, fun k hk => by
        obtain ⟨q1, h1, rfl⟩ := (hD k).mp hk
        obtain ⟨x, r, e⟩ := grp_ne (p := q1.1) (n := q1.2) h1
        exact ⟨_, _, by rw [e]; rfl⟩, fun k hk => by
        obtain ⟨q1, h1, rfl⟩ := (hD k).mp hk
        have := gK_ddepth (grp L q1.2)
        omega, by omega⟩
      refine a_ret (R := tx) (ed_tupOf _ (fun _ _ _ h => h) (el_sortNS (P := P) (w := w) (K := K) (kvs := D.map fun k => (k, V.bl true)) (by rw [eD]; exact so) (ed_v (v := .ref f) rfl ⟨f, rfl, trivial, hnd⟩))) fun v H5 e5 hv => ?_
      rw [eD, hs] at hv
      exact q v H5 ((ex_of_tE (fresh_back eA hf) (eA.trans e3) e4).trans e5) hv
end
end Mk
set_option Elab.async false
set_option linter.all false
set_option maxRecDepth 100000
set_option maxHeartbeats 400000
/-! the law's poses: home, move, turned, laid, back, between -/
namespace Mk
open PySem PySem.Spec PyProof.Rows L2 Evl
theorem move_math (p : P4) (dir many : Int) : (posL p).set (dir % 8 % 4).toNat (.num (nth p (dir % 8 % 4).toNat + many * (1 - 2 * (if decide (3 < dir % 8) then 1 else 0)))) = posL (p.add (unit dir many)) := by
  have h := rot_cases dir ⟨many, 0, 0, 0⟩
  unfold unit
  rcases h with ⟨h1, h2⟩ | ⟨h1, h2⟩ | ⟨h1, h2⟩ | ⟨h1, h2⟩ | ⟨h1, h2⟩ | ⟨h1, h2⟩ | ⟨h1, h2⟩ | ⟨h1, h2⟩ <;> (rw [h1, h2]; simp [posL, nth, P4.add]; try omega)
theorem posL_at (p : P4) {j : Nat} (h : j < 4) : atI (posL p) (j : Int) = some (.num (nth p j)) := by
  rw [at_nat]
  match j, h with
  | 0, _ => rfl
  | 1, _ => rfl
  | 2, _ => rfl
  | 3, _ => rfl
theorem pL_at (p : P5) {j : Nat} (h : j < 4) : atI (pL p) (j : Int) = some (.num (nth p.p j)) := by
  rw [at_nat]
  match j, h with
  | 0, _ => rfl
  | 1, _ => rfl
  | 2, _ => rfl
  | 3, _ => rfl
/-- a new list told -/
abbrev NewL (K : PySem.W.Frag) (H : Hp) (ks : List NestedKey) (Q : VK) : Prop := ∀ r xs H', H r = none → Ex H H' → H' r = some (.lst xs) → Tks K H' ks xs → Q (.ref r) H'
def spMove (K : PySem.W.Frag) : Sp := fun vs H Q _ => ∃ (p : P4) (dir many : Int), DA [dS tx K (posL p), dK tx K (.num dir), dK tx K (.num many)] H vs ∧ NewL K H (posL (p.add (unit dir many))) Q
def spTurned (K : PySem.W.Frag) : Sp := fun vs H Q _ => ∃ (p : P4) (e : Int), DA [dS tx K (posL p), dK tx K (.num e)] H vs ∧ NewL K H (posL (rot e p)) Q
theorem DA.len {R : Tr} {H : Hp} : ∀ {ds : List (Ds R)} {vs : List V}, DA ds H vs → vs.length = ds.length
  | [], _, h => by rw [show _ = [] from h]; rfl
  | d :: ds, _, ⟨v, r, h1, _, h3⟩ => by rw [h1, List.length_cons, List.length_cons, DA.len h3]
theorem da1 {R : Tr} {H : Hp} {d : Ds R} {vs : List V} (h : DA [d] H vs) : ∃ v, vs = [v] ∧ d.p H v := by
  obtain ⟨v, r, rfl, h1, h2⟩ := h
  rw [show r = [] from h2]
  exact ⟨v, rfl, h1⟩
theorem da2 {R : Tr} {H : Hp} {d1 d2 : Ds R} {vs : List V} (h : DA [d1, d2] H vs) : ∃ v1 v2, vs = [v1, v2] ∧ d1.p H v1 ∧ d2.p H v2 := by
  obtain ⟨v, r, rfl, h1, h2⟩ := h
  obtain ⟨v2, rfl, h3⟩ := da1 h2
  exact ⟨v, v2, rfl, h1, h3⟩
theorem da3 {R : Tr} {H : Hp} {d1 d2 d3 : Ds R} {vs : List V} (h : DA [d1, d2, d3] H vs) : ∃ v1 v2 v3, vs = [v1, v2, v3] ∧ d1.p H v1 ∧ d2.p H v2 ∧ d3.p H v3 := by
  obtain ⟨v, r, rfl, h1, h2⟩ := h
  obtain ⟨v2, v3, rfl, h3, h4⟩ := da2 h2
  exact ⟨v, v2, v3, rfl, h1, h3, h4⟩
section
variable {K : PySem.W.Frag} {σ : L2.St} {H : Hp} {ta tb tc : TE} {E : XK}
theorem el_move {p : P4} {dir many : Int} (ha : ED tx ta σ H (dS tx K (posL p))) (hb : ED tx tb σ H (dK tx K (.num dir))) (hc : ED tx tc σ H (dK tx K (.num many))) : ELk tx K (tCall (spMove K) [] E (tCons ta (tCons tb (tCons tc tNil)))) σ H (posL (p.add (unit dir many))) :=
  el_call (ea_cons ha (ea_cons hb (ea_one hc))) fun vs H1 _ h Q q => ⟨p, dir, many, h, q⟩
theorem el_turned {p : P4} {e : Int} (ha : ED tx ta σ H (dS tx K (posL p))) (hb : ED tx tb σ H (dK tx K (.num e))) : ELk tx K (tCall (spTurned K) [] E (tCons ta (tCons tb tNil))) σ H (posL (rot e p)) :=
  el_call (ea_cons ha (ea_one hb)) fun vs H1 _ h Q q => ⟨p, e, h, q⟩
theorem ED.of_new {te : TE} {ks : List NestedKey} (h : ELk tx K te σ H ks) : ED tx te σ H (dL tx K ks) := ED.of_el h fun _ _ => trivial
end
section
variable {P : Program} {w : World} {K : PySem.W.Frag} {mg : Str → Option Value} {base : Heap} {d : Da}
def fHome (ks : List NestedKey) (k : NestedKey) : Prop := ks = [] ∧ k = poseK home
theorem ok__law_home (T : Tx w K mg d) : FnOk P w K mg base CX0 1 (d.f 22) (d.fd 22) [] (spK K fHome) := by
  have nd := sc__law_home.nd
  refine T._law_home.fn.ok sc__law_home (fun vs H Q E h => len_of (fun ks k ⟨e, _⟩ => by rw [e]; rfl) h) (fun cdv A outer s H vs Q E hr h => ?_)
  obtain ⟨_, _, ⟨rfl, rfl⟩, ht, q⟩ := h
  have ht := tks_nil.mp ht
  subst ht
  refine ⟨_, (pss_one (ps_ret (pe_tup (pa_cons pe_int (pa_cons pe_int (pa_cons pe_int (pa_cons pe_int (pa_cons pe_int pa_nil)))))))), ?_⟩
  exact a_ret (R := tx) (ed_tup (K := K) [.num 0, .num 0, .num 0, .num 0, .num 0] (ea_cons ed_int (ea_cons ed_int (ea_cons ed_int (ea_cons ed_int (ea_one ed_int))))) (by decide)) fun v H4 e4 hv => q v H4 e4 hv
theorem ok__law_move (T : Tx w K mg d) : FnOk P w K mg base CX0 1 (d.f 17) (d.fd 17) ["_law_position", "_law_direction", "_law_many"] (spMove K) := by
  have nd := sc__law_move.nd
  refine T._law_move.fn.ok sc__law_move (fun vs H Q E h => ?_) (fun cdv A outer s H vs Q E hr h => ?_)
  · obtain ⟨_, _, _, h, _⟩ := h
    exact h.len
  obtain ⟨p, dir, many, ht, q⟩ := h
  obtain ⟨v1, v2, v3, rfl, h1, h2, h3⟩ := da3 ht
  have h2 := pN h2
  have h3 := pN h3
  subst h2 h3
  refine ⟨_, (pss_cons (ps_set (i := 3) nd rfl (.inl rfl) (pe_op op_mod (pe_callTy call_int1 (by rfl) T.int PyProof.Rows.boot_int (pa_cons (pv 1) pa_nil)) pe_int))
      (pss_cons (ps_set (i := 4) nd rfl (.inl rfl) (pe_callTy call_list_of (by rfl) T.list PyProof.Rows.boot_list (pa_cons (pv 0) pa_nil)))
      (pss_cons (ps_asg (pe_op op_add (pe_ix ix_seq (pv 4) (pe_op op_mod (pe_callTy call_int1 (by rfl) T.int PyProof.Rows.boot_int (pa_cons (pv 3) pa_nil)) pe_int) (fun _ _ => rfl)) (pe_op op_mul (pv 2) (pe_op op_sub pe_int (pe_op op_mul pe_int (pe_callTy call_int1 (by rfl) T.int PyProof.Rows.boot_int (pa_cons (pe_cmpR op_gt (pv 3) pe_int (nomark _)) pa_nil)))))) (pg_sub (pv 4) (pe_op op_mod (pe_callTy call_int1 (by rfl) T.int PyProof.Rows.boot_int (pa_cons (pv 3) pa_nil)) pe_int) set_list))
      (pss_one (ps_ret (pv 4)))))), ?_⟩
  refine a_set (R := tx) (ed_mod (K := K) (i := dir) (j := 8) (by decide) (ed_int1 _ (fun _ _ _ h => h) (ed_num (n := 1) rfl)) ed_int) fun v H1 e1 hv => ?_
  have hv := pN hv
  subst hv
  refine a_setL (R := tx) (el_listOf (K := K) (ks := posL p) _ (fun _ _ _ h => h) (ed_v (v := v1) rfl ((dS tx K (posL p)).mono e1 h1))) fun r xs H2 hr2 e2 hx t2 => ?_
  have h0 : 0 ≤ dir % 8 := Int.emod_nonneg _ (by decide)
  have hj : (dir % 8 % 4).toNat < 4 := by have := Int.emod_lt_of_pos (dir % 8) (show (0 : Int) < 4 by decide); have := Int.emod_nonneg (dir % 8) (show (4 : Int) ≠ 0 by decide); omega
  have e4 : dir % 8 % 4 = (((dir % 8 % 4).toNat : Nat) : Int) := by have := Int.emod_nonneg (dir % 8) (show (4 : Int) ≠ 0 by decide); omega
  have hk : ∀ r, ED tx (tOp (rI (fun _ j => 0 < j) fun i j => .int (i % j)) (tCB (fun xs H Q => (∃ i, xs = [V.int i] ∧ Q (.int i) H) ∨ ∃ k, xs = [V.bl k] ∧ Q (.int (if k then 1 else 0)) H) (tCons (tVar 3) tNil)) (tC (.int 4))) [some v1, some (.int dir), some (.int many), some (.int (dir % 8)), some (.ref r)] H2 (dK tx K (.num (((dir % 8 % 4).toNat : Nat) : Int))) := fun r => by
    have z := ed_mod (R := tx) (K := K) (H := H2) (σ := [some v1, some (.int dir), some (.int many), some (.int (dir % 8)), some (.ref r)]) (i := dir % 8) (j := 4) (tb := tC (.int 4)) (by decide) (ed_int1 (te := tVar 3) (fun xs H Q => (∃ i, xs = [V.int i] ∧ Q (.int i) H) ∨ ∃ k, xs = [V.bl k] ∧ Q (.int (if k then 1 else 0)) H) (fun _ _ _ h => h) (ed_num rfl)) ed_int
    rw [e4] at z
    exact z
  refine a_setIx (R := tx) (K := K) (d := dK tx K (.num (nth p (dir % 8 % 4).toNat + many * (1 - 2 * (if decide (3 < dir % 8) then 1 else 0))))) (n := (dir % 8 % 4).toNat) hx trivial
    (ed_add (ed_ixL (ks := posL p) (posL_at p hj) (ed_lst (n := 4) rfl trivial hx t2) (hk r)) (ed_mul (.inr ⟨by split <;> decide, by split <;> decide⟩) (ed_num (n := 2) rfl) (ed_sub ed_int (ed_mul (.inl ⟨by decide, by decide⟩) ed_int (ed_intB _ (fun _ _ _ h => h) (ed_I0b (K := K) (i := dir % 8) (j := 3) (ed_num (n := 3) rfl) ed_int))))))
    (ed_ref (n := 4) rfl) (hk r) (by rw [t2.len]; exact hj) fun v H3 e3 hv hl => ?_
  have ts : TSt H3 (upd H3 r (.lst (xs.set (dir % 8 % 4).toNat v))) := (TSt.refl H3).lst hl
  refine a_ret (R := tx) (ed_ref (n := 4) (l := r) rfl) fun v4 H4 e5 hv4 => ?_
  have hv4 : v4 = .ref r := hv4
  subst hv4
  refine q r _ H4 (fresh_back e1 hr2) ((Ex.mut ((Ex.trans e1 e2).trans e3) (fresh_back e1 hr2)).trans e5) (e5 _ _ upd_same) ?_
  rw [← move_math]
  exact ((Tks.set (Tk.to (H := H3) hv ts) _ ((t2.ex e3).to ts))).ex e5
theorem ok__law_turned (T : Tx w K mg d) : FnOk P w K mg base CX0 2 (d.f 18) (d.fd 18) ["_law_position", "_law_eighths"] (spTurned K) := by
  have nd := sc__law_turned.nd
  refine T._law_turned.fn.ok sc__law_turned (fun vs H Q E h => ?_) (fun cdv A outer s H vs Q E hr h => ?_)
  · obtain ⟨_, _, h, _⟩ := h
    exact h.len
  obtain ⟨x, e, ht, q⟩ := h
  obtain ⟨v1, v2, rfl, h1, h2⟩ := da2 ht
  have h2 := pN h2
  subst h2
  refine ⟨_, (pss_cons (ps_set (i := 2) nd rfl (.inl rfl) (pe_lst (pa_cons pe_int (pa_cons pe_int (pa_cons pe_int (pa_cons pe_int pa_nil))))))
      (pss_cons (ps_for PassesOwn.never rfl (pi_range1 (by rfl) T.range (pa_cons pe_int pa_nil)) (pg_name (i := 3) nd rfl (.inl rfl)) (pss_one (ps_set (i := 2) nd rfl (.inl rfl) (pc T._law_move (ok__law_move T) (hr.mono (by decide)) (pa_cons (pv 2) (pa_cons (pe_op op_add (pv 3) (pv 1)) (pa_cons (pe_ix ix_seq (pv 0) (pv 3) (fun _ _ => rfl)) pa_nil)))))))
      (pss_one (ps_ret (pv 2))))), ?_⟩
  refine a_setL (R := tx) (el_lst (K := K) [.num 0, .num 0, .num 0, .num 0] (ea_cons ed_int (ea_cons ed_int (ea_cons ed_int (ea_one ed_int)))) (by decide)) fun p xs H1 hp e1 hx t1 => ?_
  refine a_forS (Re := tx) (R := tx) (ei_rng1 (K := K) (n := 4) (ea_one ed_int) (by decide)) (fun _ e => e)
    (fun i σ H2 => ∃ r xs y3, σ = [some v1, some (.int e), some (.ref r), y3] ∧ H r = none ∧ H2 r = some (.lst xs) ∧ Tks K H2 (posL (tsum x e i)) xs) (fun H2 e2 => ⟨p, xs, none, rfl, hp, e2 _ _ hx, t1.ex e2⟩) (fun Hb eb i y σ' H' H2 hi e2 hP e3 hy => ?_) fun σ' H' e2 hP => ?_
  · obtain ⟨r, xs, y3, rfl, hr0, hx, ht⟩ := hP
    have hy := pN hy
    subst hy
    have h12 := (dS tx K (posL x)).mono (((Ex.trans e1 eb).trans e2).trans e3) h1
    refine a_lastL (R := tx) (el_move (K := K) (p := tsum x e i) (ED.s_of_l (ed_lst (n := 2) rfl trivial (e3 _ _ hx) (ht.ex e3))) (ed_add (ed_num (n := 3) rfl) (ed_num (n := 1) rfl)) (ed_ixS (posL_at x hi) (ed_v (v := v1) rfl h12) (ed_num (n := 3) rfl))) fun r2 ys H3 hr2 e4 hy2 t2 => ?_
    exact ⟨(Ex.trans e2 e3).trans e4, r2, ys, _, rfl, fresh_back (((Ex.trans e1 eb).trans e2).trans e3) hr2, hy2, t2⟩
  · obtain ⟨r, xs, y3, rfl, hr0, hx, ht⟩ := hP
    refine a_ret (R := tx) (ed_ref (n := 2) (l := r) rfl) fun v4 H4 e5 hv4 => ?_
    have hv4 : v4 = .ref r := hv4
    subst hv4
    have ht : Tks K H' (posL (tsum x e 4)) xs := ht
    rw [tsum4] at ht
    exact q r xs H4 hr0 ((Ex.trans e1 e2).trans e5) (e5 _ _ hx) (ht.ex e5)
theorem posK_range (x y : P4) : posK (x.add y) = .tup ((List.range 4).map fun i => .num (nth x i + nth y i)) := rfl
theorem ok__law_laid (T : Tx w K mg d) : FnOk P w K mg base CX0 3 (d.f 19) (d.fd 19) ["_law_pose_here", "_law_other"] (spK K fLaid) := by
  have nd := sc__law_laid.nd
  refine T._law_laid.fn.ok sc__law_laid (fun vs H Q E h => len_of (fun ks k ⟨_, _, e, _⟩ => by rw [e]; rfl) h) (fun cdv A outer s H vs Q E hr h => ?_)
  obtain ⟨_, _, ⟨m, e, rfl, rfl⟩, ht, q⟩ := h
  obtain ⟨v1, v2, rfl, h1, h2⟩ := tks2 ht
  refine ⟨_, (pss_cons (ps_set (i := 2) nd rfl (.inr rfl) (pc T._law_turned (ok__law_turned T) (hr.mono (by decide)) (pa_cons (pe_slice sl_tup (pv 1) po_none (po_some pe_int)) (pa_cons (pe_ix ix_seq (pv 0) pe_int (fun _ _ => rfl)) pa_nil))))
      (pss_one (ps_ret (pe_op op_catT (pe_callTy call_tuple_of (by rfl) T.tuple PyProof.Rows.boot_tuple (pa_cons (pe_lc (own := [("_law_k", 3)]) (g := gName 3) (tt := tYes) rfl nd (pi_range1 (by rfl) T.range (pa_cons pe_int pa_nil)) (blkOk_by (N := ["_law_pose_here", "_law_other", "_law_place", "_law_k"]) (sc := defScope s__law_laid) (by decide +kernel)) (fun _ _ _ _ _ => (pg_name (i := 3) nd rfl (.inl rfl) (.inr rfl))) (fun _ _ _ _ _ => pts_nil) (fun _ _ _ _ _ => (pe_op op_add (pe_ix (r := rIx K) ix_seq (pv 0) (pv 3) (fun _ _ => rfl)) (pe_ix (r := rIx K) ix_seq (pv 2) (pv 3) (fun _ _ => rfl))))) pa_nil)) (pe_tup (pa_cons (pe_op op_mod (pe_callTy call_int1 (by rfl) T.int PyProof.Rows.boot_int (pa_cons (pe_op op_add (pe_ix ix_seq (pv 0) pe_int (fun _ _ => rfl)) (pe_ix ix_seq (pv 1) pe_int (fun _ _ => rfl))) pa_nil)) pe_int) pa_nil)))))), ?_⟩
  refine a_setL (R := tx) (el_turned (K := K) (p := e.p) (e := m.h) (ED.s_of_t (ks := posL e.p) (ed_pos (ed_key (n := 1) rfl h2))) (ed_hd (ed_key (n := 0) rfl h1))) fun r xs H1 hr1 e1 hx t1 => ?_
  refine a_ret (R := tx) (ed_pose (K := K) (laid_math m e) ?_ (ed_mod (by decide) (ed_int1 _ (fun _ _ _ h => h) (ed_add (ed_hd (ed_key (n := 0) rfl (h1.ex e1))) (ed_hd (ed_key (n := 1) rfl (h2.ex e1))))) ed_int)) fun v H4 e4 hv => q v H4 (Ex.trans e1 e4) hv
  rw [posK_range]
  refine ed_tupOf _ (fun _ _ _ h => h) (el_lcA (K := K) (n := 4) _ (ei_rng1 (Re := tx) (R := tx) (K := K) (n := 4) (ea_one ed_int) (by decide)) (by decide) fun i v H2 hlt e3 hv2 Q1 k1 => ?_)
  have hv2 := pN hv2
  subst hv2
  exact k1 _ _ rfl (Ex.refl _) (ed_add (ed_ixT (K := K) (ks := pL m) (pL_at m hlt) (ed_key (n := 0) rfl (h1.ex (Ex.trans e1 e3))) (ed_num (n := 3) rfl)) (ed_ixL (K := K) (ks := posL (rot m.h e.p)) (posL_at _ hlt) (ed_lst (n := 2) rfl trivial (e3 _ _ hx) (t1.ex e3)) (ed_num (n := 3) rfl)))
theorem ok__law_back (T : Tx w K mg d) : FnOk P w K mg base CX0 1 (d.f 20) (d.fd 20) ["_law_pose_here"] (spK K fBack) := by
  have nd := sc__law_back.nd
  refine T._law_back.fn.ok sc__law_back (fun vs H Q E h => len_of (fun ks k ⟨_, e, _⟩ => by rw [e]; rfl) h) (fun cdv A outer s H vs Q E hr h => ?_)
  obtain ⟨_, _, ⟨p, rfl, rfl⟩, ht, q⟩ := h
  obtain ⟨v1, rfl, h1⟩ := tks1 ht
  refine ⟨_, (pss_one (ps_ret (pe_op op_catT (pe_slice sl_tup (pv 0) po_none (po_some pe_int)) (pe_tup (pa_cons (pe_op op_mod (pe_callTy call_int1 (by rfl) T.int PyProof.Rows.boot_int (pa_cons (pe_op op_add (pe_ix ix_seq (pv 0) pe_int (fun _ _ => rfl)) pe_int) pa_nil)) pe_int) pa_nil))))), ?_⟩
  exact a_ret (R := tx) (ed_pose (back_math p) (ed_pos (ed_key rfl h1)) (ed_mod (by decide) (ed_int1 _ (fun _ _ _ h => h) (ed_add (ed_hd (ed_key rfl h1)) ed_int)) ed_int)) fun v H4 e4 hv => q v H4 e4 hv
theorem between_range (e f : P5) : poseK (between e f) = .tup (posL (f.p.add (rot ((f.h - e.h) % 8) e.p).neg) ++ [.num ((f.h - e.h) % 8)]) := by
  rw [rot_mod]
  rfl
theorem posK_sub (x y : P4) : posK (x.add y.neg) = .tup ((List.range 4).map fun i => .num (nth x i - nth y i)) := by
  have h : ∀ a b : Int, a + (0 - b) = a - b := fun a b => by omega
  show NestedKey.tup [.num (x.a + (0 - y.a)), .num (x.b + (0 - y.b)), .num (x.c + (0 - y.c)), .num (x.d + (0 - y.d))] = .tup [.num (x.a - y.a), .num (x.b - y.b), .num (x.c - y.c), .num (x.d - y.d)]
  rw [h, h, h, h]
theorem ok__law_between (T : Tx w K mg d) : FnOk P w K mg base CX0 3 (d.f 30) (d.fd 30) ["_law_pose_here", "_law_other"] (spK K fBetween) := by
  have nd := sc__law_between.nd
  refine T._law_between.fn.ok sc__law_between (fun vs H Q E h => len_of (fun ks k ⟨_, _, e, _⟩ => by rw [e]; rfl) h) (fun cdv A outer s H vs Q E hr h => ?_)
  obtain ⟨_, _, ⟨e, f, rfl, rfl⟩, ht, q⟩ := h
  obtain ⟨v1, v2, rfl, h1, h2⟩ := tks2 ht
  refine ⟨_, (pss_cons (ps_set (i := 2) nd rfl (.inl rfl) (pe_op op_mod (pe_callTy call_int1 (by rfl) T.int PyProof.Rows.boot_int (pa_cons (pe_op op_sub (pe_ix ix_seq (pv 1) pe_int (fun _ _ => rfl)) (pe_ix ix_seq (pv 0) pe_int (fun _ _ => rfl))) pa_nil)) pe_int))
      (pss_cons (ps_set (i := 3) nd rfl (.inr rfl) (pc T._law_turned (ok__law_turned T) (hr.mono (by decide)) (pa_cons (pe_slice sl_tup (pv 0) po_none (po_some pe_int)) (pa_cons (pv 2) pa_nil))))
      (pss_one (ps_ret (pe_op op_catT (pe_callTy call_tuple_of (by rfl) T.tuple PyProof.Rows.boot_tuple (pa_cons (pe_lc (own := [("_law_k", 4)]) (g := gName 4) (tt := tYes) rfl nd (pi_range1 (by rfl) T.range (pa_cons pe_int pa_nil)) (blkOk_by (N := ["_law_pose_here", "_law_other", "_law_eighths", "_law_away", "_law_k"]) (sc := defScope s__law_between) (by decide +kernel)) (fun _ _ _ _ _ => (pg_name (i := 4) nd rfl (.inl rfl) (.inr rfl))) (fun _ _ _ _ _ => pts_nil) (fun _ _ _ _ _ => (pe_op op_sub (pe_ix (r := rIx K) ix_seq (pv 1) (pv 4) (fun _ _ => rfl)) (pe_ix (r := rIx K) ix_seq (pv 3) (pv 4) (fun _ _ => rfl))))) pa_nil)) (pe_tup (pa_cons (pv 2) pa_nil))))))), ?_⟩
  refine a_set (R := tx) (ed_mod (K := K) (i := f.h - e.h) (j := 8) (by decide) (ed_int1 _ (fun _ _ _ h => h) (ed_sub (ed_hd (ed_key (n := 1) rfl h2)) (ed_hd (ed_key (n := 0) rfl h1)))) ed_int) fun v H1 e1 hv => ?_
  have hv := pN hv
  subst hv
  refine a_setL (R := tx) (el_turned (K := K) (p := e.p) (e := (f.h - e.h) % 8) (ED.s_of_t (ks := posL e.p) (ed_pos (ed_key (n := 0) rfl (h1.ex e1)))) (ed_num (n := 2) rfl)) fun r xs H2 hr2 e2 hx t2 => ?_
  have e12 := Ex.trans e1 e2
  refine a_ret (R := tx) (ed_pose (K := K) (between_range e f) ?_ (ed_num (n := 2) rfl)) fun v H4 e4 hv => q v H4 (Ex.trans e12 e4) hv
  rw [posK_sub]
  refine ed_tupOf _ (fun _ _ _ h => h) (el_lcA (K := K) (n := 4) _ (ei_rng1 (Re := tx) (R := tx) (K := K) (n := 4) (ea_one ed_int) (by decide)) (by decide) fun i v H3 hlt e3 hv2 Q1 k1 => ?_)
  have hv2 := pN hv2
  subst hv2
  exact k1 _ _ rfl (Ex.refl _) (ed_sub (ed_ixT (K := K) (ks := pL f) (pL_at f hlt) (ed_key (n := 1) rfl (h2.ex (Ex.trans e12 e3))) (ed_num (n := 4) rfl)) (ed_ixL (K := K) (ks := posL (rot ((f.h - e.h) % 8) e.p)) (posL_at _ hlt) (ed_lst (n := 3) rfl trivial (e3 _ _ hx) (t2.ex e3)) (ed_num (n := 4) rfl)))
end
end Mk
set_option Elab.async false
set_option linter.all false
set_option maxRecDepth 100000
set_option maxHeartbeats 400000
/-! the law's led, ends_of -/
namespace Mk
open PySem PySem.Spec PyProof.Rows L2 Evl
def stepL (p : P5) (x : Str) : P5 :=
  if x = "S" ∨ x = "H" then ⟨p.p.add (unit p.h (1 + (if x = "S" then 1 else 0))), p.h % 8⟩
  else if x = "L" then ⟨(p.p.add (unit (p.h + 2) 2)).add (unit (p.h + 7) 2), (p.h + 1) % 8⟩
  else ⟨(p.p.add (unit (p.h + 1) 2)).add (unit (p.h + 6) 2), (p.h + 7) % 8⟩
def lets (w : Str) : List Str := w.cps.toList.map fun c => (⟨#[c]⟩ : Str)
def lastP (l : List P5) : P5 := l.getLast?.getD home
def ledT (p : P5) (xs : List Str) : List P5 := xs.foldl (fun acc x => acc ++ [stepL (lastP acc) x]) [p]
theorem ledT_snoc (p : P5) (xs : List Str) (x : Str) : ledT p (xs ++ [x]) = ledT p xs ++ [stepL (lastP (ledT p xs)) x] := by
  unfold ledT
  rw [List.foldl_append]
  rfl
theorem ledT_fold : ∀ (xs : List Str) (acc : List P5), acc ≠ [] → (xs.foldl (fun acc x => acc ++ [stepL (lastP acc) x]) acc).length = acc.length + xs.length ∧ (xs.foldl (fun acc x => acc ++ [stepL (lastP acc) x]) acc) ≠ []
  | [], acc, h => ⟨rfl, h⟩
  | x :: xs, acc, h => by
    obtain ⟨h1, h2⟩ := ledT_fold xs (acc ++ [stepL (lastP acc) x]) (by simp)
    refine ⟨?_, h2⟩
    rw [List.length_append, List.length_singleton] at h1
    rw [List.length_cons]
    show (xs.foldl (fun acc x => acc ++ [stepL (lastP acc) x]) (acc ++ [stepL (lastP acc) x])).length = _
    omega
theorem ledT_len (p : P5) (xs : List Str) : (ledT p xs).length = xs.length + 1 := by
  have := (ledT_fold xs [p] (by simp)).1
  unfold ledT
  rw [this, List.length_singleton]
  omega
theorem ledT_last (p : P5) (xs : List Str) : (ledT p xs).getLast? = some (lastP (ledT p xs)) := by
  have h := (ledT_fold xs [p] (by simp)).2
  unfold lastP
  cases q : (ledT p xs).getLast? with
  | none =>
    rw [List.getLast?_eq_none_iff] at q
    exact absurd q h
  | some y => rfl
theorem lets_len (w : Str) : (lets w).length = w.length := by
  unfold lets
  rw [List.length_map]
  rfl
def spLed (K : PySem.W.Frag) : Sp := fun vs H Q _ => ∃ (p : P5) (x : Str), x.length ≤ 1000 ∧ Tks K H [poseK p, .text x] vs ∧ NewL K H ((ledT p (lets x)).map poseK) Q
section
variable {R : Tr} {K : PySem.W.Frag} {σ : L2.St} {H : Hp} {ta tb tc te : TE} {E : XK} {D : Ends} {tu tw tz : TS}
theorem el_led {p : P5} {x : Str} (hx : x.length ≤ 1000) (ha : ED tx ta σ H (dK tx K (poseK p))) (hb : ED tx tb σ H (dK tx K (.text x))) : ELk tx K (tCall (spLed K) [] E (tCons ta (tCons tb tNil))) σ H ((ledT p (lets x)).map poseK) :=
  el_call (ds := [dK tx K (poseK p), dK tx K (.text x)]) (ea_cons ha (ea_one hb)) fun vs H1 _ h Q q => ⟨p, x, hx, da_tks (ks := [poseK p, .text x]) h, q⟩
theorem et_or {t u : L2.TT} {a b : Bool} (h1 : ET R t σ H a) (h2 : ET R u σ H b) : ET R (tOr t u) σ H (a || b) := fun H1 e Q q => h1 H1 e _ fun H2 e2 => by
  cases a with
  | true => exact q H2 e2
  | false => exact h2 H2 (R.trans e e2) Q fun H3 e3 => q H3 (R.trans e2 e3)
theorem et_and {t u : L2.TT} {a b : Bool} (h1 : ET R t σ H a) (h2 : a = true → ET R u σ H b) : ET R (tAnd t u) σ H (a && b) := fun H1 e Q q => h1 H1 e _ fun H2 e2 => by
  cases a with
  | false => exact q H2 e2
  | true => exact h2 rfl H2 (R.trans e e2) Q fun H3 e3 => q H3 (R.trans e2 e3)
theorem map_last {α : Type} {f : α → NestedKey} {l : List α} {x : α} (h : l.getLast? = some x) : atI (l.map f) (-1) = some (f x) := at_last (by rw [List.getLast?_map, h]; rfl)
/-- xs + ys, both new -/
theorem el_cat {P1 P2 P3 : Hp → List V → Prop} (ha : EL tx ta σ H P1) (hb : EL tx tb σ H P2) (m1 : ∀ H H' xs, Ex H H' → P1 H xs → P1 H' xs) (hl : ∀ H1 xs ys, P1 H1 xs → P2 H1 ys → xs.length + ys.length ≤ 100000) (h3 : ∀ H1 H2 xs ys, Ex H1 H2 → P1 H1 xs → P2 H1 ys → P3 H2 (xs ++ ys)) :
    EL tx (tOp rCat ta tb) σ H P3 := fun H1 e Q q => ha H1 e _ fun p xs H2 hp e2 hx p1 => hb H2 (Ex.trans e e2) _ fun r ys H3 hr e3 hy p2 =>
  ⟨p, r, xs, ys, rfl, rfl, e3 _ _ hx, hy, sz5 (hl H3 xs ys (m1 _ _ _ e3 p1) p2), fun s hs => q s _ _ (fresh_back (Ex.trans e2 e3) hs) ((Ex.trans e2 e3).trans (Ex.new hs)) upd_same (h3 H3 _ _ _ (Ex.new hs) (m1 _ _ _ e3 p1) p2)⟩
/-- a list that stands in a slot, as it is -/
theorem el_catV {n : Nat} {l : Addr} {xs : List V} {P2 P3 : Hp → List V → Prop} (hs : σ[n]? = some (some (.ref l))) (hx : H l = some (.lst xs)) (hb : EL tx tb σ H P2) (hl : ∀ H1 ys, P2 H1 ys → xs.length + ys.length ≤ 100000) (h3 : ∀ H1 H2 ys, Ex H H1 → Ex H1 H2 → P2 H1 ys → P3 H2 (xs ++ ys)) :
    EL tx (tOp rCat (tVar n) tb) σ H P3 := fun H1 e Q q => ⟨.ref l, hs, hb H1 e _ fun r ys H3 hr e3 hy p2 =>
  ⟨l, r, xs, ys, rfl, rfl, (Ex.trans e e3) _ _ hx, hy, sz5 (hl H3 ys p2), fun s hs => q s _ _ (fresh_back e3 hs) (Ex.trans e3 (Ex.new hs)) upd_same (h3 H3 _ _ (Ex.trans e e3) (Ex.new hs) p2)⟩⟩
/-- a pair of a written dict: a text, a list of texts -/
theorem tp_cons {s : Str} {xs : List Str} {t : TA} {rest : List (TE × TE)} {Q : List (V × V) → Hp → Prop} (h : EA tx t σ H ((xs.map NestedKey.text).map (dK tx K))) (hl : xs.length ≤ 100000)
    (k : ∀ p H1, H p = none → Ex H H1 → H1 p = some (.lst (xs.map V.str)) → tPairs rest σ H1 fun ps H3 => Q ((.str s, .ref p) :: ps) H3) : tPairs ((tC (.str s), tLst t) :: rest) σ H Q :=
  h H (Ex.refl H) _ fun vs H2 e2 p => by
    have ht := da_tks p
    have e : vs = xs.map V.str := texts_of ht
    subst e
    exact ⟨by rw [List.length_map]; exact sz5 hl, fun p hp => k p _ (fresh_back e2 hp) (Ex.trans e2 (Ex.new hp)) upd_same⟩
where
  texts_of {K : PySem.W.Frag} {H : Hp} : ∀ {xs : List Str} {vs : List V}, Tks K H (xs.map NestedKey.text) vs → vs = xs.map V.str
  | [], _, h => tks_nil.mp h
  | x :: xs, _, h => by
    obtain ⟨v, r, rfl, h1, h2⟩ := tks_cons.mp h
    rw [tk_text.mp h1, texts_of h2]
    rfl
end
section
variable {P : Program} {w : World} {K : PySem.W.Frag} {mg : Str → Option Value} {base : Heap} {d : Da}
theorem ok__law_led (T : Tx w K mg d) : FnOk P w K mg base CX0 2 (d.f 21) (d.fd 21) ["_law_pose_here", "_law_row"] (spLed K) := by
  have nd := sc__law_led.nd
  refine T._law_led.fn.ok sc__law_led (fun vs H Q E h => ?_) (fun cdv A outer s H vs Q E hr h => ?_)
  · obtain ⟨_, _, _, h, _⟩ := h
    exact h.len
  obtain ⟨p, x, hx, ht, q⟩ := h
  obtain ⟨v1, v2, rfl, h1, h2⟩ := tks2 ht
  have h2 := tk_text.mp h2
  subst h2
  refine ⟨_, (pss_cons (ps_set (i := 2) nd rfl (.inl rfl) (pe_lst (pa_cons (pv 0) pa_nil)))
      (pss_cons (ps_for PassesOwn.never rfl (pi_str (pv 1)) (pg_name (i := 3) nd rfl (.inl rfl)) (pss_cons (ps_set (i := 4) nd rfl (.inl rfl) (pe_callTy call_list_of (by rfl) T.list PyProof.Rows.boot_list (pa_cons (pe_slice sl_tup (pe_ix ix_seq (pv 2) (pe_un un_neg pe_int) (fun _ _ => rfl)) po_none (po_some pe_int)) pa_nil)))
      (pss_cons (ps_set (i := 5) nd rfl (.inl rfl) (pe_ix ix_seq (pe_ix ix_seq (pv 2) (pe_un un_neg pe_int) (fun _ _ => rfl)) pe_int (fun _ _ => rfl)))
      (pss_cons (ps_if (pw_or (pt_cmpR op_eq (pv 3) pe_str (nomark _)) (pw_or1 (pt_cmpR op_eq (pv 3) pe_str (nomark _)))).pt (pss_one (ps_set (i := 4) nd rfl (.inl rfl) (pc T._law_move (ok__law_move T) (hr.mono (by decide)) (pa_cons (pv 4) (pa_cons (pv 5) (pa_cons (pe_op op_add pe_int (pe_callTy call_int1 (by rfl) T.int PyProof.Rows.boot_int (pa_cons (pe_cmpR op_eq (pv 3) pe_str (nomark _)) pa_nil))) pa_nil)))))) (pss_one (ps_if (pt_cmpR op_eq (pv 3) pe_str (nomark _)) (pss_cons (ps_set (i := 4) nd rfl (.inl rfl) (pc T._law_move (ok__law_move T) (hr.mono (by decide)) (pa_cons (pc T._law_move (ok__law_move T) (hr.mono (by decide)) (pa_cons (pv 4) (pa_cons (pe_op op_add (pv 5) pe_int) (pa_cons pe_int pa_nil)))) (pa_cons (pe_op op_add (pv 5) pe_int) (pa_cons pe_int pa_nil)))))
      (pss_one (ps_set (i := 5) nd rfl (.inl rfl) (pe_op op_add (pv 5) pe_int)))) (pss_cons (ps_set (i := 4) nd rfl (.inl rfl) (pc T._law_move (ok__law_move T) (hr.mono (by decide)) (pa_cons (pc T._law_move (ok__law_move T) (hr.mono (by decide)) (pa_cons (pv 4) (pa_cons (pe_op op_add (pv 5) pe_int) (pa_cons pe_int pa_nil)))) (pa_cons (pe_op op_add (pv 5) pe_int) (pa_cons pe_int pa_nil)))))
      (pss_one (ps_set (i := 5) nd rfl (.inl rfl) (pe_op op_add (pv 5) pe_int)))))))
      (pss_one (ps_expr (pe_bm PySem.F.plainAttrs_list PySem.F.slot_list_append PySem.F.type_list_append mt_append (pv 2) (pa_cons (pe_op op_catT (pe_callTy call_tuple_of (by rfl) T.tuple PyProof.Rows.boot_tuple (pa_cons (pv 4) pa_nil)) (pe_tup (pa_cons (pe_op op_mod (pe_callTy call_int1 (by rfl) T.int PyProof.Rows.boot_int (pa_cons (pv 5) pa_nil)) pe_int) pa_nil))) pa_nil))))))))
      (pss_one (ps_ret (pv 2))))), ?_⟩
  refine a_setL (R := tx) (el_lst (K := K) [poseK p] (ea_one (ed_key (n := 0) rfl h1)) (by show 1 ≤ 100000; decide)) fun l xs0 H1 hl e1 hx0 t1 => ?_
  refine a_forS (Re := tx) (R := tE l) (ei_str (K := K) (w := x) (ed_txt (n := 1) rfl)) (fun _ e => (tE l).ex e)
    (fun i σ H => ∃ y3 y4 y5 xs, σ = [some v1, some (.str x), some (.ref l), y3, y4, y5] ∧ H l = some (.lst xs) ∧ Tks K H ((ledT p ((lets x).take i)).map poseK) xs)
    (fun H2 e2 => ⟨none, none, none, xs0, rfl, e2 _ _ hx0, t1.ex e2⟩) (fun Hb eb i y σ' H' H2 hi e2 hP e3 hy => ?_) fun σ' H' e2 hP => ?_
  · obtain ⟨y3, y4, y5, xs, rfl, hx1, ht1⟩ := hP
    have hy := pX hy
    subst hy
    have hi2 : i < (lets x).length := by rw [lets_len]; exact hi
    have hlet : (lets x)[i]? = some ⟨#[x.cps.toList.getD i 0]⟩ := by
      unfold lets
      rw [List.getElem?_map, get_lt (d := 0) (by rw [Array.length_toList]; exact hi)]
      rfl
    generalize hc : (⟨#[x.cps.toList.getD i 0]⟩ : Str) = c at hlet
    generalize hP0 : ledT p ((lets x).take i) = P0 at ht1
    have hlast : P0.getLast? = some (lastP P0) := by rw [← hP0]; exact ledT_last _ _
    have hlen : P0.length = i + 1 := by
      rw [← hP0, ledT_len, List.length_take]
      omega
    have hsnoc : ledT p ((lets x).take (i + 1)) = P0 ++ [stepL (lastP P0) c] := by
      rw [List.take_add_one, hlet]
      show ledT p ((lets x).take i ++ [c]) = _
      rw [ledT_snoc, hP0]
    generalize hp0 : lastP P0 = p0 at hlast hsnoc
    have hxl : x.length = x.cps.size := rfl
    show tSeq _ _ _ [some v1, some (.str x), some (.ref l), some (.str c), y4, y5] H2
    have edl : ∀ σ H3, σ[2]? = some (some (.ref l)) → Ex H2 H3 → ED tx (tOp (rIx K) (tVar 2) (tUn (rU fun i => .int (-i)) (tC (.int 1)))) σ H3 (dK tx K (poseK p0)) := fun σ H3 hs e4 =>
      ed_ixL (K := K) (ks := P0.map poseK) (i := -1) (map_last hlast) (ed_lst hs trivial ((Ex.trans e3 e4) _ _ hx1) ((ht1.ex e3).ex e4)) (ed_neg ed_int)
    refine a_setL (R := tx) (el_listOf (K := K) (ks := posL p0.p) _ (fun _ _ _ h => h) (ED.s_of_t (ks := posL p0.p) (ed_pos (edl _ _ rfl (Ex.refl _))))) fun r ys H3 hr3 e4 hy3 t3 => ?_
    refine a_set (R := tx) (ed_hd (edl _ _ rfl e4)) fun v H4 e5 hv => ?_
    have hv := pN hv
    subst hv
    have e35 := (Ex.trans e3 e4).trans e5
    -- what is left: append
    have fin : ∀ (P1 : P4) (n : Int) (r2 : Addr) (zs : List V) (H5 : Hp), stepL p0 c = ⟨P1, n % 8⟩ → Ex H' H5 → H5 r2 = some (.lst zs) → Tks K H5 (posL P1) zs →
        tDrop (tBM K "list" rAppend (tVar 2) (tCons (tOp (rCatT K) (tCB (fun xs H Q => ∃ p ys, xs = [V.ref p] ∧ ((SqL K H p ys ∧ ∀ l, H l = none → Q (.ref l) (upd H l (.tup ys))) ∨ (SqT K H p ys ∧ Q (.ref p) H))) (tCons (tVar 4) tNil)) (tTup (tCons (tOp (rI (fun _ j => 0 < j) fun i j => .int (i % j)) (tCB (fun xs H Q => (∃ i, xs = [V.int i] ∧ Q (.int i) H) ∨ ∃ k, xs = [V.bl k] ∧ Q (.int (if k then 1 else 0)) H) (tCons (tVar 5) tNil)) (tC (.int 8))) tNil))) tNil))
          { nx := fun σ4 H4 => (tE l).r Hb H4 ∧ ∃ y3 y4 y5 xs, σ4 = [some v1, some (.str x), some (.ref l), y3, y4, y5] ∧ H4 l = some (.lst xs) ∧ Tks K H4 ((ledT p ((lets x).take (i + 1))).map poseK) xs, rt := Q, bk := fun _ _ => False, ct := fun _ _ => False }
          [some v1, some (.str x), some (.ref l), some (.str c), some (.ref r2), some (.int n)] H5 := fun P1 n r2 zs H5 hst eH hz tz => by
      refine a_app (R := tx) (d := dK tx K (poseK ⟨P1, n % 8⟩)) (eH _ _ hx1) trivial (ed_ref (n := 2) rfl) (ed_pose (K := K) (p := P1) (n := n % 8) rfl (ed_tupOfS _ (fun _ _ _ h => h) (ED.s_of_l (ed_lst (n := 4) rfl trivial hz tz)))
        (ed_mod (by decide) (ed_int1 _ (fun _ _ _ h => h) (ed_num (n := 5) rfl)) ed_int)) ?_ fun v H6 e6 hv hl6 => ?_
      · rw [ht1.len, List.length_map, hlen]
        omega
      · have ts : TSt H6 (upd H6 l (.lst (xs ++ [v]))) := (TSt.refl H6).lst hl6
        refine ⟨tE_upd ((tE l).trans e2 ((tE l).ex (Ex.trans eH e6))) hl6, _, _, _, xs ++ [v], rfl, upd_same, ?_⟩
        rw [hsnoc, List.map_append, hst]
        exact ((ht1.ex (Ex.trans eH e6)).to ts).snoc (Tk.to hv ts)
    refine a_ifS (R := tx) (b := decide (c = "S") || decide (c = "H")) (et_or (et_v (ed_eqs (K := K) (i := c) (j := "S") (ed_txt (n := 3) rfl) ed_str)) (et_v (ed_eqs (K := K) (i := c) (j := "H") (ed_txt (n := 3) rfl) ed_str))) (fun hb H5 e6 => ?_) (fun hb H5 e6 => ?_)
    · have hSH : c = "S" ∨ c = "H" := by simpa using hb
      have hy5 := (Ex.trans e5 e6) _ _ hy3
      have t5 := t3.ex (Ex.trans e5 e6)
      refine a_lastL (R := tx) (el_move (K := K) (p := p0.p) (dir := p0.h) (many := 1 + (if decide (c = "S") then 1 else 0)) (ED.s_of_l (ed_lst (n := 4) rfl trivial hy5 t5)) (ed_num (n := 5) rfl) (ed_add ed_int (ed_intB _ (fun _ _ _ h => h) (ed_eqs (K := K) (i := c) (j := "S") (ed_txt (n := 3) rfl) ed_str)))) fun r2 zs H6 hr2 e7 hz tz => ?_
      refine fin (p0.p.add (unit p0.h (1 + (if decide (c = "S") then 1 else 0)))) p0.h r2 zs H6 ?_ ((Ex.trans e35 e6).trans e7) hz tz
      unfold stepL
      rw [if_pos hSH]
      by_cases h : c = "S" <;> simp [h]
    · have hSH : ¬ (c = "S" ∨ c = "H") := by simpa using hb
      refine a_if (R := tx) (b := decide (c = "L")) (et_v (ed_eqs (K := K) (i := c) (j := "L") (ed_txt (n := 3) rfl) ed_str)) (fun hb H6 e7 => ?_) (fun hb H6 e7 => ?_)
      · have hL := of_decide_eq_true hb
        have hy5 := ((Ex.trans e5 e6).trans e7) _ _ hy3
        have t5 := t3.ex ((Ex.trans e5 e6).trans e7)
        refine a_setL (R := tx) (el_move (K := K) (p := p0.p.add (unit (p0.h + 2) 2)) (dir := p0.h + 7) (many := 2) (ED.s_of_l (ED.of_new (el_move (p := p0.p) (dir := p0.h + 2) (many := 2) (ED.s_of_l (ed_lst (n := 4) rfl trivial hy5 t5)) (ed_add (ed_num (n := 5) rfl) ed_int) ed_int))) (ed_add (ed_num (n := 5) rfl) ed_int) ed_int) fun r2 zs H7 hr2 e8 hz tz => ?_
        refine a_last (R := tx) (ed_add (K := K) (i := p0.h) (j := 1) (ed_num (n := 5) rfl) ed_int) fun v H8 e9 hv => ?_
        have hv := pN hv
        subst hv
        refine fin _ (p0.h + 1) r2 zs H8 ?_ ((((Ex.trans e35 e6).trans e7).trans e8).trans e9) (e9 _ _ hz) (tz.ex e9)
        unfold stepL
        rw [if_neg hSH, if_pos hL]
      · have hL := of_decide_eq_false hb
        have hy5 := ((Ex.trans e5 e6).trans e7) _ _ hy3
        have t5 := t3.ex ((Ex.trans e5 e6).trans e7)
        refine a_setL (R := tx) (el_move (K := K) (p := p0.p.add (unit (p0.h + 1) 2)) (dir := p0.h + 6) (many := 2) (ED.s_of_l (ED.of_new (el_move (p := p0.p) (dir := p0.h + 1) (many := 2) (ED.s_of_l (ed_lst (n := 4) rfl trivial hy5 t5)) (ed_add (ed_num (n := 5) rfl) ed_int) ed_int))) (ed_add (ed_num (n := 5) rfl) ed_int) ed_int) fun r2 zs H7 hr2 e8 hz tz => ?_
        refine a_last (R := tx) (ed_add (K := K) (i := p0.h) (j := 7) (ed_num (n := 5) rfl) ed_int) fun v H8 e9 hv => ?_
        have hv := pN hv
        subst hv
        refine fin _ (p0.h + 7) r2 zs H8 ?_ ((((Ex.trans e35 e6).trans e7).trans e8).trans e9) (e9 _ _ hz) (tz.ex e9)
        unfold stepL
        rw [if_neg hSH, if_neg hL]
  · obtain ⟨y3, y4, y5, xs, rfl, hx1, ht1⟩ := hP
    have e9 : (lets x).take x.cps.size = lets x := List.take_of_length_le (by rw [lets_len]; exact Nat.le_refl _)
    rw [e9] at ht1
    refine a_ret (R := tx) (ed_ref (n := 2) (l := l) rfl) fun v H4 e4 hv => ?_
    have hv : v = .ref l := hv
    subst hv
    exact q l xs H4 hl ((ex_of_tE hl e1 e2).trans e4) (e4 _ _ hx1) (ht1.ex e4)
end
end Mk
set_option Elab.async false
set_option linter.all false
set_option maxRecDepth 100000
set_option maxHeartbeats 400000
/-! the law's ends_of, all_ends -/
namespace Mk
open PySem PySem.Spec PyProof.Rows L2 Evl
def rowsOf : Kd → List Str
  | .S => ["S"]
  | .H => ["H"]
  | .C => ["L"]
  | .P => ["S", "L"]
  | .Q => ["S", "R"]
  | .X => []
def threeX : List P5 := [⟨⟨2, 0, 0, 0⟩, 0⟩, ⟨⟨1, 0, 1, 0⟩, 2⟩, ⟨⟨1, 0, -1, 0⟩, 6⟩]
theorem lets_S : lets "S" = [("S" : Str)] := by decide +kernel
theorem lets_H : lets "H" = [("H" : Str)] := by decide +kernel
theorem lets_L : lets "L" = [("L" : Str)] := by decide +kernel
theorem lets_R : lets "R" = [("R" : Str)] := by decide +kernel
theorem led_one (p : P5) (x : Str) : lastP (ledT p [x]) = stepL p x := rfl
theorem out_S (p : P5) : stepL p "S" = laid p ⟨⟨2, 0, 0, 0⟩, 0⟩ := by
  unfold stepL
  rw [if_pos (.inl rfl), if_pos rfl]
  refine P5.eq rfl ?_
  show p.h % 8 = (p.h + 0) % 8
  rw [Int.add_zero]
theorem out_H (p : P5) : stepL p "H" = laid p ⟨⟨1, 0, 0, 0⟩, 0⟩ := by
  unfold stepL
  rw [if_pos (.inr rfl), if_neg (by decide +kernel)]
  refine P5.eq rfl ?_
  show p.h % 8 = (p.h + 0) % 8
  rw [Int.add_zero]
theorem two_units (h a b : Int) (x : P4) : (x.add (unit (h + a) 2)).add (unit (h + b) 2) = x.add (rot h ((unit a 2).add (unit b 2))) := by
  unfold unit
  rw [rot_lin, ← rot_add, ← rot_add, add_assoc]
theorem out_L (p : P5) : stepL p "L" = laid p ⟨⟨0, 0, 2, -2⟩, 1⟩ := by
  unfold stepL
  rw [if_neg (by decide +kernel), if_pos rfl, two_units]
  rfl
theorem out_R (p : P5) : stepL p "R" = laid p ⟨⟨0, 2, -2, 0⟩, 7⟩ := by
  unfold stepL
  rw [if_neg (by decide +kernel), if_neg (by decide +kernel), two_units]
  rfl
theorem ends_rows (c : Kd) (p : P5) (h : c ≠ .X) : endsOf c p = [laid p back0] ++ (rowsOf c).map fun x => lastP (ledT p (lets x)) := by
  cases c <;> first
    | (simp only [rowsOf, List.map, lets_S, lets_H, lets_L, lets_R, led_one, out_S, out_H, out_L, out_R]; rfl)
    | exact (h rfl).elim
theorem rows_ok {c : Kd} {x : Str} (h : x ∈ rowsOf c) : x.length ≤ 1000 := by
  cases c <;> simp [rowsOf] at h
  · subst h; decide +kernel
  · subst h; decide +kernel
  · subst h; decide +kernel
  · rcases h with rfl | rfl <;> decide +kernel
  · rcases h with rfl | rfl <;> decide +kernel
def fEndsL (ks : List NestedKey) (js : List NestedKey) : Prop := ∃ (c : Kd) (p : P5), ks = [.text c.str, poseK p] ∧ js = (endsOf c p).map poseK
theorem put_newK {κ : Type} [DecidableEq κ] {kvs : List (κ × V)} {k : κ} {v : V} (h : k ∉ kvs.map (·.1)) : putK kvs k v = kvs ++ [(k, v)] := by
  unfold putK
  rw [if_neg]
  rw [List.any_eq_true]
  rintro ⟨p, hp, e⟩
  exact h (List.mem_map.mpr ⟨p, hp, of_decide_eq_true e⟩)
theorem merge_new : ∀ (more kvs : List (L2.Key × V)), ((kvs ++ more).map (·.1)).Nodup → mergeK kvs more = kvs ++ more
  | [], kvs, _ => (List.append_nil kvs).symm
  | p :: r, kvs, h => by
    have e : kvs ++ p :: r = (kvs ++ [p]) ++ r := by simp
    have hk : p.1 ∉ kvs.map (·.1) := by
      rw [List.map_append, List.nodup_append] at h
      exact fun z => h.2.2 _ z p.1 (by simp) rfl
    show mergeK (putK kvs p.1 p.2) r = _
    rw [put_newK hk, e]
    exact merge_new r (kvs ++ [(p.1, p.2)]) (by rw [e] at h; exact h)
section
variable {R : Tr} {K : PySem.W.Frag} {σ : L2.St} {H : Hp} {ta tb tc te : TE} {E : XK} {D : Ends} {tu tw tz : TS}
theorem a_setDisp {trs : List (TE × TE)} {i : Nat} (h : ∀ p, H p = none → tPairs trs σ (upd H p (.dK [])) fun ps H2 => H2 p = some (.dK []) ∧ ∃ kvs : List (L2.Key × V), ps = kvs.map (fun kv => (kV kv.1, kv.2)) ∧ kvs.length ≤ 15 ∧
    tz D (σ.set i (some (.ref p))) (upd H2 p (.dK (mergeK [] kvs)))) : tSeq (tAsg (tDisp trs) (gName i)) tz D σ H := h
theorem el_ends {c : Kd} {p : P5} (ha : ED tx ta σ H (dK tx K (.text c.str))) (hb : ED tx tb σ H (dK tx K (poseK p))) : ELk tx K (tCall (spKL K fEndsL) [] E (tCons ta (tCons tb tNil))) σ H ((endsOf c p).map poseK) :=
  el_callK [.text c.str, poseK p] ⟨c, p, rfl, rfl⟩ (ea_cons ha (ea_one hb))
end
theorem tk_str : ∀ {K : PySem.W.Frag} {H : Hp} (xs : List Str), Tks K H (xs.map NestedKey.text) (xs.map V.str)
  | _, _, [] => tks_nil.mpr rfl
  | _, _, x :: xs => tks_cons.mpr ⟨_, _, rfl, tkx x, tk_str xs⟩
section
variable {P : Program} {w : World} {K : PySem.W.Frag} {mg : Str → Option Value} {base : Heap} {d : Da}
theorem ok__law_ends_of (T : Tx w K mg d) : FnOk P w K mg base CX0 4 (d.f 25) (d.fd 25) ["_law_kind", "_law_pose_here"] (spKL K fEndsL) := by
  have nd := sc__law_ends_of.nd
  refine T._law_ends_of.fn.ok sc__law_ends_of (fun vs H Q E h => len_ofL (fun ks k ⟨_, _, e, _⟩ => by rw [e]; rfl) h) (fun cdv A outer s H vs Q E hr h => ?_)
  obtain ⟨_, _, ⟨c, p, rfl, rfl⟩, ht, q⟩ := h
  obtain ⟨v1, v2, rfl, h1, h2⟩ := tks2 ht
  have h1 := tk_text.mp h1
  subst h1
  refine ⟨_, (pss_cons (ps_set (i := 2) nd rfl (.inl rfl) (pe_disp (pps_cons pe_str (pe_lst (pa_cons pe_str pa_nil)) (pps_cons pe_str (pe_lst (pa_cons pe_str pa_nil)) (pps_cons pe_str (pe_lst (pa_cons pe_str pa_nil)) (pps_cons pe_str (pe_lst (pa_cons pe_str (pa_cons pe_str pa_nil))) (pps_cons pe_str (pe_lst (pa_cons pe_str (pa_cons pe_str pa_nil))) (pps_cons pe_str (pe_lst pa_nil) pps_nil)))))) (by rfl) (by rfl) (fun z => by cases z) (by decide)))
      (pss_cons (ps_set (i := 3) nd rfl (.inl rfl) (pe_op op_cat (pe_lst (pa_cons (pc T._law_back (ok__law_back T) (hr.mono (by decide)) (pa_cons (pv 1) pa_nil)) pa_nil)) (pe_lc (own := [("_law_row", 4)]) (g := gName 4) (tt := tYes) rfl nd (pi_list (pe_dget (hu_of hr) (pv 2) (pv 0) (fun _ _ => rfl))) (blkOk_by (N := ["_law_kind", "_law_pose_here", "_law_rows", "_law_found", "_law_row", "_law_place"]) (sc := defScope s__law_ends_of) (by decide +kernel)) (fun _ _ _ _ _ => (pg_name (i := 4) nd rfl (.inl rfl) (.inr rfl))) (fun _ _ _ _ _ => pts_nil) (fun _ _ _ _ _ => (pe_ix (r := rIx K) ix_seq (pc T._law_led (ok__law_led T) (hr.mono (by decide)) (pa_cons (pv 1) (pa_cons (pv 4) pa_nil))) (pe_un un_neg pe_int) (fun _ _ => rfl))))))
      (pss_cons (ps_if (pt_cmpR op_eq (pv 0) pe_str (nomark _)) (pss_one (ps_set (i := 3) nd rfl (.inl rfl) (pe_op op_cat (pv 3) (pe_lc (own := [("_law_place", 5)]) (g := gName 5) (tt := tYes) rfl nd (pi_list (pe_lst (pa_cons (pe_tup (pa_cons pe_int (pa_cons pe_int (pa_cons pe_int (pa_cons pe_int (pa_cons pe_int pa_nil)))))) (pa_cons (pe_tup (pa_cons pe_int (pa_cons pe_int (pa_cons pe_int (pa_cons pe_int (pa_cons pe_int pa_nil)))))) (pa_cons (pe_tup (pa_cons pe_int (pa_cons pe_int (pa_cons (pe_un un_neg pe_int) (pa_cons pe_int (pa_cons pe_int pa_nil)))))) pa_nil))))) (blkOk_by (N := ["_law_kind", "_law_pose_here", "_law_rows", "_law_found", "_law_row", "_law_place"]) (sc := defScope s__law_ends_of) (by decide +kernel)) (fun _ _ _ _ _ => (pg_name (i := 5) nd rfl (.inl rfl) (.inr rfl))) (fun _ _ _ _ _ => pts_nil) (fun _ _ _ _ _ => (pc T._law_laid (ok__law_laid T) (hr.mono (by decide)) (pa_cons (pv 1) (pa_cons (pv 5) pa_nil)))))))) pss_nil)
      (pss_one (ps_ret (pv 3)))))), ?_⟩
  refine a_setDisp fun D0 hD0 => ?_
  refine tp_cons (K := K) (xs := ["S"]) (ea_one ed_str) (by decide) fun p1 H1 f1 e1 x1 => ?_
  refine tp_cons (K := K) (xs := ["H"]) (ea_one ed_str) (by decide) fun p2 H2 f2 e2 x2 => ?_
  refine tp_cons (K := K) (xs := ["L"]) (ea_one ed_str) (by decide) fun p3 H3 f3 e3 x3 => ?_
  refine tp_cons (K := K) (xs := ["S", "L"]) (ea_cons ed_str (ea_one ed_str)) (by decide) fun p4 H4 f4 e4 x4 => ?_
  refine tp_cons (K := K) (xs := ["S", "R"]) (ea_cons ed_str (ea_one ed_str)) (by decide) fun p5 H5 f5 e5 x5 => ?_
  refine tp_cons (K := K) (xs := []) ea_nil (by decide) fun p6 H6 f6 e6 x6 => ?_
  have e06 : Ex (upd H D0 (.dK [])) H6 := ((((e1.trans e2).trans e3).trans e4).trans e5).trans e6
  have hD6 : H6 D0 = some (.dK []) := e06 _ _ upd_same
  have nodk : (([(Sum.inr "S", V.ref p1), (Sum.inr "H", V.ref p2), (Sum.inr "C", V.ref p3), (Sum.inr "P", V.ref p4), (Sum.inr "Q", V.ref p5), (Sum.inr "X", V.ref p6)] : List (L2.Key × V)).map (·.1)).Nodup := by
    show ([Sum.inr "S", Sum.inr "H", Sum.inr "C", Sum.inr "P", Sum.inr "Q", Sum.inr "X"] : List L2.Key).Nodup
    decide +kernel
  refine ⟨hD6, [(Sum.inr "S", V.ref p1), (Sum.inr "H", V.ref p2), (Sum.inr "C", V.ref p3), (Sum.inr "P", V.ref p4), (Sum.inr "Q", V.ref p5), (Sum.inr "X", V.ref p6)], rfl, by show 6 ≤ 15; decide, ?_⟩
  rw [merge_new _ [] nodk, List.nil_append]
  have eH : Ex H (upd H6 D0 (.dK [(Sum.inr "S", V.ref p1), (Sum.inr "H", V.ref p2), (Sum.inr "C", V.ref p3), (Sum.inr "P", V.ref p4), (Sum.inr "Q", V.ref p5), (Sum.inr "X", V.ref p6)])) := Ex.mut ((Ex.new hD0).trans e06) hD0
  have hrow : ∃ a, valV ([(Sum.inr "S", V.ref p1), (Sum.inr "H", V.ref p2), (Sum.inr "C", V.ref p3), (Sum.inr "P", V.ref p4), (Sum.inr "Q", V.ref p5), (Sum.inr "X", V.ref p6)] : List (L2.Key × V)) (Sum.inr c.str) = some (.ref a) ∧ H6 a = some (.lst ((rowsOf c).map V.str)) := by
    cases c
    · exact ⟨p1, valV_mem nodk (by simp [Kd.str]), (((((e2.trans e3).trans e4).trans e5).trans e6)) _ _ x1⟩
    · exact ⟨p2, valV_mem nodk (by simp [Kd.str]), ((((e3.trans e4).trans e5).trans e6)) _ _ x2⟩
    · exact ⟨p3, valV_mem nodk (by simp [Kd.str]), (((e4.trans e5).trans e6)) _ _ x3⟩
    · exact ⟨p4, valV_mem nodk (by simp [Kd.str]), ((e5.trans e6)) _ _ x4⟩
    · exact ⟨p5, valV_mem nodk (by simp [Kd.str]), e6 _ _ x5⟩
    · exact ⟨p6, valV_mem nodk (by simp [Kd.str]), x6⟩
  obtain ⟨a, ha, hxa⟩ := hrow
  generalize hkv : ([(Sum.inr "S", V.ref p1), (Sum.inr "H", V.ref p2), (Sum.inr "C", V.ref p3), (Sum.inr "P", V.ref p4), (Sum.inr "Q", V.ref p5), (Sum.inr "X", V.ref p6)] : List (L2.Key × V)) = kvs at ha eH
  have naD : a ≠ D0 := fun z => by
    rw [z, hD6] at hxa
    cases hxa
  have hxa7 : (upd H6 D0 (.dK kvs)) a = some (.lst ((rowsOf c).map V.str)) := by rw [upd_ne naD]; exact hxa
  have hD7 : (upd H6 D0 (.dK kvs)) D0 = some (.dK kvs) := upd_same
  generalize upd H6 D0 (.dK kvs) = H7 at eH hxa7 hD7
  -- found
  have hget : ∀ σ : L2.St, σ[2]? = some (some (.ref D0)) → σ[0]? = some (some (.str c.str)) → ED tx (tDGet (tVar 2) (tVar 0)) σ H7 (dL tx K ((rowsOf c).map NestedKey.text)) := fun σ s1 s2 H8 e8 Q1 k1 =>
    ⟨.ref D0, s1, .str c.str, s2, D0, .ref a, rfl, .inl ⟨kvs, Sum.inr c.str, .inl (e8 _ _ hD7), rfl, ha.symm⟩, k1 _ H8 (Ex.refl _) ⟨a, _, rfl, trivial, .inl (.inl (e8 _ _ hxa7)), tk_str _⟩⟩
  have hcomp : ∀ σ : L2.St, σ = [some (.str c.str), some v2, some (.ref D0), none, none, none] → ELk tx K (tOp rCat (tLst (tCons (tCall (spK K fBack) [] E0 (tCons (tVar 1) tNil)) tNil)) (tLc (iList K (tDGet (tVar 2) (tVar 0))) (gName 4) tYes (tOp (rIx K) (tCall (spLed K) [] E0 (tCons (tVar 1) (tCons (tVar 4) tNil))) (tUn (rU fun i => .int (-i)) (tC (.int 1)))) [4])) σ H7
      ((([laid p back0] ++ (rowsOf c).map fun x => lastP (ledT p (lets x)))).map poseK) := fun σ hσ => by
    subst hσ
    have lc : ELk tx K (tLc (iList K (tDGet (tVar 2) (tVar 0))) (gName 4) tYes (tOp (rIx K) (tCall (spLed K) [] E0 (tCons (tVar 1) (tCons (tVar 4) tNil))) (tUn (rU fun i => .int (-i)) (tC (.int 1)))) [4]) [some (.str c.str), some v2, some (.ref D0), none, none, none] H7 (((rowsOf c).map fun x => lastP (ledT p (lets x))).map poseK) := by
      have er : ((rowsOf c).map fun x => lastP (ledT p (lets x))).map poseK = (List.range ((rowsOf c).map NestedKey.text).length).map fun i => poseK (lastP (ledT p (lets ((rowsOf c).getD i "")))) := by
        rw [List.map_map, List.length_map]
        exact (range_getD (f := fun x => poseK (lastP (ledT p (lets x))))).symm
      rw [er]
      refine el_lcA (K := K) _ (ei_list (Re := tx) (R := tx) (hget _ rfl rfl) fun _ _ => trivial) (by rw [List.length_map]; cases c <;> decide) fun i v H8 hlt e8 hv Q1 k1 => ?_
      rw [List.length_map] at hlt
      rw [getD_map (d := ("" : Str)) (f := NestedKey.text) hlt] at hv
      have hv := pX hv
      subst hv
      have hmem : (rowsOf c).getD i "" ∈ rowsOf c := List.mem_of_getElem? (get_lt hlt)
      refine k1 _ _ rfl (Ex.refl _) (ed_ixL (K := K) (ks := (ledT p (lets ((rowsOf c).getD i ""))).map poseK) (i := -1) (map_last (ledT_last _ _)) (ED.of_new (el_led (rows_ok hmem) (ed_key (n := 1) rfl (h2.ex (eH.trans e8))) (ed_txt (n := 4) rfl))) (ed_neg ed_int))
    refine el_cat (P1 := fun H xs => Tks K H [poseK (laid p back0)] xs) (P2 := fun H xs => Tks K H (((rowsOf c).map fun x => lastP (ledT p (lets x))).map poseK) xs) (el_lst (K := K) [poseK (laid p back0)] (ea_one (ed_callK [poseK p] ⟨p, rfl, rfl⟩ (ea_one (ed_key (n := 1) rfl (h2.ex eH))))) (by show 1 ≤ 100000; decide)) lc (fun H H' xs e t => t.ex e) (fun H1 xs ys t1 t2 => ?_) (fun H1 H2 xs ys e t1 t2 => ?_)
    · rw [t1.len, t2.len, List.length_map, List.length_map]
      cases c <;> (simp [rowsOf])
    · exact (t1.ex e).app (t2.ex e)
  refine a_setL (R := tx) (hcomp _ rfl) fun r xs H8 hr8 e8 hx8 t8 => ?_
  refine a_ifS (R := tx) (et_v (ed_eqs (K := K) (i := c.str) (j := "X") (ed_txt (n := 0) rfl) ed_str)) (fun hb H9 e9 => ?_) (fun hb H9 e9 => ?_)
  · have hX : c = .X := Kd.inj (of_decide_eq_true hb)
    subst hX
    have lc : ELk tx K (tLc (iList K (tLst (tCons (tTup (tCons (tC (.int 2)) (tCons (tC (.int 0)) (tCons (tC (.int 0)) (tCons (tC (.int 0)) (tCons (tC (.int 0)) tNil)))))) (tCons (tTup (tCons (tC (.int 1)) (tCons (tC (.int 0)) (tCons (tC (.int 1)) (tCons (tC (.int 0)) (tCons (tC (.int 2)) tNil))))))
        (tCons (tTup (tCons (tC (.int 1)) (tCons (tC (.int 0)) (tCons (tUn (rU fun i => .int (-i)) (tC (.int 1))) (tCons (tC (.int 0)) (tCons (tC (.int 6)) tNil)))))) tNil))))) (gName 5) tYes (tCall (spK K fLaid) [] E0 (tCons (tVar 1) (tCons (tVar 5) tNil))) [5]) [some (.str Kd.X.str), some v2, some (.ref D0), some (.ref r), none, none] H9 ((threeX.map (laid p)).map poseK) := by
      have er : (threeX.map (laid p)).map poseK = (List.range (threeX.map poseK).length).map fun i => poseK (laid p (threeX.getD i home)) := by
        rw [List.map_map, List.length_map]
        exact (range_getD (f := fun x => poseK (laid p x))).symm
      rw [er]
      refine el_lcA (K := K) _ (ei_listN (Re := tx) (R := tx) (ks := threeX.map poseK) (el_lst (threeX.map poseK) (ea_cons (ed_tup (pL ⟨⟨2, 0, 0, 0⟩, 0⟩) (ea_cons ed_int (ea_cons ed_int (ea_cons ed_int (ea_cons ed_int (ea_one ed_int))))) (by decide)) (ea_cons (ed_tup (pL ⟨⟨1, 0, 1, 0⟩, 2⟩) (ea_cons ed_int (ea_cons ed_int (ea_cons ed_int (ea_cons ed_int (ea_one ed_int))))) (by decide))
        (ea_one (ed_tup (pL ⟨⟨1, 0, -1, 0⟩, 6⟩) (ea_cons ed_int (ea_cons ed_int (ea_cons (ed_neg ed_int) (ea_cons ed_int (ea_one ed_int))))) (by decide))))) (by decide)) fun _ _ => trivial) (by decide) fun i v H10 hlt e10 hv Q1 k1 => ?_
      have hlt : i < threeX.length := by rw [List.length_map] at hlt; exact hlt
      rw [getD_map (d := home) (f := poseK) hlt] at hv
      exact k1 _ _ rfl (Ex.refl _) (ed_callK [poseK p, poseK (threeX.getD i home)] ⟨_, _, rfl, rfl⟩ (ea_cons (ed_key (n := 1) rfl (h2.ex (((eH.trans e8).trans e9).trans e10))) (ea_one (ed_key (n := 5) rfl hv))))
    refine a_lastL (R := tx) (el_catV (n := 3) (P2 := fun H xs => Tks K H ((threeX.map (laid p)).map poseK) xs) (P3 := fun H xs => Tks K H ((endsOf .X p).map poseK) xs) rfl (e9 _ _ hx8) lc (fun H1 ys t => ?_) fun H1 H2 ys eA eB t => ?_) fun r2 zs H10 hr2 e10 hz tz => ?_
    · rw [t8.len, t.len]
      simp [rowsOf, threeX]
    · exact ((t8.ex (Ex.trans e9 eA)).ex eB).app (t.ex eB)
    · refine a_ret (R := tx) (ed_ref (n := 3) (l := r2) rfl) fun v H11 e11 hv => ?_
      have hv : v = .ref r2 := hv
      subst hv
      exact q r2 zs H11 (fresh_back ((eH.trans e8).trans e9) hr2) (((((eH.trans e8).trans e9).trans e10)).trans e11) (e11 _ _ hz) (Tks.ex tz e11)
  · have hX : c ≠ .X := fun z => by
      rw [z] at hb
      exact absurd rfl (of_decide_eq_false hb)
    refine a_ret (R := tx) (ed_ref (n := 3) (l := r) rfl) fun v H11 e11 hv => ?_
    have hv : v = .ref r := hv
    subst hv
    refine q r xs H11 (fresh_back eH hr8) (((eH.trans e8).trans e9).trans e11) ((Ex.trans e9 e11) _ _ hx8) ?_
    rw [ends_rows c p hX]
    exact Tks.ex t8 (Ex.trans e9 e11)
end
end Mk
set_option Elab.async false
set_option linter.all false
set_option maxRecDepth 100000
set_option maxHeartbeats 400000
/-! the law's all_ends, is_free, shapes -/
namespace Mk
open PySem PySem.Spec PyProof.Rows L2 Evl
def rowK (t : Nat × Nat × P5) : List NestedKey := [.num t.1, .num t.2.1, poseK t.2.2]
/-- a new list whose i-th is a list of ks i -/
def RowsQ (K : PySem.W.Frag) (n : Nat) (ks : Nat → List NestedKey) (H : Hp) (xs : List V) : Prop := xs.length = n ∧ ∀ (i : Nat) (x : V), xs[i]? = some x → ∃ a ys, x = .ref a ∧ H a = some (.lst ys) ∧ Tks K H (ks i) ys
def RowsP (K : PySem.W.Frag) (ts : List (Nat × Nat × P5)) (H : Hp) (xs : List V) : Prop := RowsQ K ts.length (fun i => rowK (ts.getD i (0, 0, home))) H xs
theorem RowsQ.ex {K : PySem.W.Frag} {n : Nat} {ks : Nat → List NestedKey} {H H' : Hp} {xs : List V} (h : RowsQ K n ks H xs) (e : Ex H H') : RowsQ K n ks H' xs :=
  ⟨h.1, fun i x hx => let ⟨a, ys, h1, h2, h3⟩ := h.2 i x hx; ⟨a, ys, h1, e _ _ h2, h3.ex e⟩⟩
theorem RowsP.app {K : PySem.W.Frag} {ts us : List (Nat × Nat × P5)} {H : Hp} {xs ys : List V} (h1 : RowsP K ts H xs) (h2 : RowsP K us H ys) : RowsP K (ts ++ us) H (xs ++ ys) := by
  refine ⟨by rw [List.length_append, List.length_append, h1.1, h2.1], fun i x hx => ?_⟩
  by_cases hi : i < xs.length
  · rw [List.getElem?_append_left hi] at hx
    have hi2 : i < ts.length := by have := h1.1; omega
    have e : (ts ++ us).getD i (0, 0, home) = ts.getD i (0, 0, home) := by
      rw [List.getD_eq_getElem?_getD, List.getD_eq_getElem?_getD, List.getElem?_append_left hi2]
    show ∃ a ys, x = .ref a ∧ H a = some (.lst ys) ∧ Tks K H (rowK ((ts ++ us).getD i (0, 0, home))) ys
    rw [e]
    exact h1.2 i x hx
  · rw [List.getElem?_append_right (by omega)] at hx
    have e : (ts ++ us).getD i (0, 0, home) = us.getD (i - xs.length) (0, 0, home) := by
      rw [List.getD_eq_getElem?_getD, List.getD_eq_getElem?_getD, List.getElem?_append_right (by have := h1.1; omega)]
      have := h1.1
      rw [this]
    show ∃ a ys, x = .ref a ∧ H a = some (.lst ys) ∧ Tks K H (rowK ((ts ++ us).getD i (0, 0, home))) ys
    rw [e]
    exact h2.2 _ x hx
theorem RowsP.nil {K : PySem.W.Frag} {H : Hp} : RowsP K [] H [] := ⟨rfl, fun i x h => by simp at h⟩
/-- a row -/
def dRow (R : Tr) (K : PySem.W.Frag) (ks : List NestedKey) : Ds R := ⟨fun H v => ∃ a ys, v = .ref a ∧ R.ok a ∧ H a = some (.lst ys) ∧ Tks K H ks ys, fun e ⟨a, ys, h1, h2, h3, h4⟩ => ⟨a, ys, h1, h2, R.keep e h2 h3, h4.to (R.ts e)⟩⟩
section
variable {R : Tr} {K : PySem.W.Frag} {σ : L2.St} {H : Hp} {ta tb tc te : TE} {E : XK} {D : Ends} {tu tw tz : TS} {ks : List NestedKey}
theorem row_l {v : V} (h : (dRow R K ks).p H v) : ∃ a, v = .ref a ∧ (dL tx K ks).p H (.ref a) := by
  obtain ⟨a, ys, h1, h2, h3, h4⟩ := h
  exact ⟨a, h1, a, ys, rfl, trivial, .inl (.inl h3), h4⟩
theorem ed_row {n : Nat} {v : V} (hs : σ[n]? = some (some v)) (h : (dRow R K ks).p H v) : ED tx (tVar n) σ H (dL tx K ks) := by
  obtain ⟨a, rfl, h2⟩ := row_l h
  exact ed_v hs h2
theorem el_lcRows {wi : TI} {g : TG} {vs : List Nat} {n : Nat} {ds : Nat → Ds tx} (ks : Nat → List NestedKey) (hi : EI tx tx wi σ H n ds) (hn : n ≤ 50000)
    (turn : ∀ i v H', i < n → Ex H H' → (ds i).p H' v → ∀ Q : L2.St → Hp → Prop, (∀ σ2 H2, wipe σ2 vs = wipe σ vs → Ex H' H2 → ELk tx K te σ2 H2 (ks i) → Q σ2 H2) → g v (wipe σ vs) H' Q) :
    EL tx (tLc wi g tYes te vs) σ H (RowsQ K n ks) := fun H1 e Q q => hi H1 e _ fun J H2 G e2 hG keep w => fun D hD => by
  refine lc_it w (fun i H' => Ex H2 H' ∧ ∃ xs, H' D = some (.lst xs) ∧ xs.length = i ∧ ∀ (j : Nat) (x : V), xs[j]? = some x → ∃ a ys, x = .ref a ∧ a ≠ D ∧ H' a = some (.lst ys) ∧ Tks K H' (ks j) ys)
    ⟨Ex.new hD, [], upd_same, rfl, fun j x h => by simp at h⟩ (fun i H' _ p => keep _ _ p.1 hG) (fun i x H3 H4 hi p y => ?_) fun H' p => ?_
  · obtain ⟨p1, xs, p2, p3, p4⟩ := p
    refine turn i x H4 hi ((e.trans e2).trans (p1.trans y.1)) y.2 _ fun σ2 H5 hw e5 he => ⟨hw, ?_⟩
    show te σ2 H5 _
    refine he H5 (Ex.refl _) _ fun a ys H7 ha e7 hy ht => ?_
    have e36 := y.1.trans e5
    have hD5 : H5 D = some (.lst xs) := e36 _ _ p2
    have hD7 : H7 D = some (.lst xs) := e7 _ _ hD5
    have naD : a ≠ D := fun z => by rw [z, hD5] at ha; cases ha
    have t7 : TSt H7 (upd H7 D (.lst (xs ++ [V.ref a]))) := (TSt.refl H7).lst hD7
    refine ⟨xs, hD7, sz_lt (by omega), Ex.mut ((p1.trans e36).trans e7) hD, xs ++ [.ref a], upd_same, by rw [List.length_append, p3]; rfl, fun j z hz => ?_⟩
    by_cases hj : j < xs.length
    · rw [List.getElem?_append_left hj] at hz
      obtain ⟨b, zs, h1, h2, h3, h4⟩ := p4 j z hz
      exact ⟨b, zs, h1, h2, by rw [upd_ne h2]; exact (Ex.trans e36 e7) _ _ h3, ((h4.ex e36).ex e7).to t7⟩
    · rw [List.getElem?_append_right (by omega)] at hz
      have hj0 : j - xs.length = 0 := by have := (List.getElem?_eq_some_iff.mp hz).1; simp at this; omega
      have hji : j = i := by omega
      rw [hj0] at hz
      cases hz
      subst hji
      exact ⟨a, ys, rfl, naD, by rw [upd_ne naD]; exact hy, ht.to t7⟩
  · obtain ⟨p1, xs, p2, p3, p4⟩ := p
    exact q D xs H' (fresh_back e2 hD) (e2.trans p1) p2 ⟨p3, fun i x hx => let ⟨a, ys, h1, _, h3, h4⟩ := p4 i x hx; ⟨a, ys, h1, h3, h4⟩⟩
theorem ei_rows {n : Nat} {kss : Nat → List NestedKey} (h : EL tx te σ H (RowsQ K n kss)) : EI tx tx (iList K te) σ H n (fun i => dRow tx K (kss i)) :=
  ei_listP (EL.imp h fun H2 xs t => ⟨t.1, fun i x hx => let ⟨a, ys, h1, h2, h3⟩ := t.2 i x hx; ⟨a, ys, h1, trivial, h2, h3⟩⟩) fun _ _ => trivial
/-- a list known since ahead of l's making -/
theorem ei_listB {H0 : Hp} {l a : Addr} {n : Nat} {xs : List V} {m : Nat} {ds : Nat → Ds (tE l)} (hl : H0 l = none) (e0 : Ex H0 H) (hs : σ[n]? = some (some (.ref a))) (hx : SqL K H0 a xs) (hm : xs.length = m) (hp : ∀ H', Ex H0 H' → ∀ (i : Nat) (x : V), xs[i]? = some x → (ds i).p H' x) : EI tx (tE l) (iList K (tVar n)) σ H m ds := fun H1 e Q q =>
  ⟨.ref a, hs, a, rfl, ⟨xs, ex_l (e0.trans e) hx⟩, by
    refine q _ H1 (fun H' => Ex H0 H') (Ex.refl H1) (e0.trans e) (fun _ _ e g => ex_of_tE hl g e) ?_
    subst hm
    refine walk_list.mono (fun H' g => ex_l g hx) fun i H' x H2 hi g y => ?_
    obtain ⟨rfl, hy⟩ := y
    exact ⟨Ex.refl _, hp _ g i x hy⟩⟩
end
def spAllEndsL (K : PySem.W.Frag) : Sp := fun vs H Q _ => ∃ L : Lay, L.length ≤ 1000 ∧ DA [dL tx K (L.map itemK)] H vs ∧ ∀ r xs H', H r = none → Ex H H' → H' r = some (.lst xs) → RowsP K (allT (numd 0 L)) H' xs → Q (.ref r) H'
section
variable {P : Program} {w : World} {K : PySem.W.Frag} {mg : Str → Option Value} {base : Heap} {d : Da}
theorem el_allEnds {σ : L2.St} {H : Hp} {ta : TE} {E : XK} {L : Lay} (hL : L.length ≤ 1000) (ha : ED tx ta σ H (dL tx K (L.map itemK))) : EL tx (tCall (spAllEndsL K) [] E (tCons ta tNil)) σ H (RowsP K (allT (numd 0 L))) :=
  el_call (ea_one ha) fun vs H1 _ h Q q => ⟨L, hL, h, q⟩
theorem item_atI {L : Lay} {i : Nat} {o : Option Piece} (h : L[i]? = some o) : atI (L.map itemK) (i : Int) = some (itemK o) := by
  rw [at_nat, List.getElem?_map, h]
  rfl
theorem ok__law_all_ends (T : Tx w K mg d) : FnOk P w K mg base CX0 5 (d.f 26) (d.fd 26) ["_law_layout_here"] (spAllEndsL K) := by
  have nd := sc__law_all_ends.nd
  refine T._law_all_ends.fn.ok sc__law_all_ends (fun vs H Q E h => ?_) (fun cdv A outer s H vs Q E hr h => ?_)
  · obtain ⟨_, _, h, _⟩ := h
    exact h.len
  obtain ⟨L, hL, ht, q⟩ := h
  obtain ⟨v1, rfl, h1⟩ := da1 ht
  refine ⟨_, (pss_cons (ps_set (i := 1) nd rfl (.inl rfl) (pe_lst pa_nil))
      (pss_cons (ps_for PassesOwn.never rfl (pi_range1 (by rfl) T.range (pa_cons (pe_callB call_len_seq (by rfl) T.len PySem.boot_len (pa_cons (pv 0) pa_nil)) pa_nil)) (pg_name (i := 2) nd rfl (.inr rfl)) (pss_one (ps_if (pt_cmpR op_notN1 (pe_ix ix_seq (pv 0) (pv 2) (fun _ _ => rfl)) pe_non (nomark _)) (pss_cons (ps_set (i := 3) nd rfl (.inr rfl) (pc T._law_ends_of (ok__law_ends_of T) (hr.mono (by decide)) (pa_cons (pe_ix ix_seq (pe_ix ix_seq (pv 0) (pv 2) (fun _ _ => rfl)) pe_int (fun _ _ => rfl)) (pa_cons (pe_ix ix_seq (pe_ix ix_seq (pv 0) (pv 2) (fun _ _ => rfl)) pe_int (fun _ _ => rfl)) pa_nil))))
      (pss_one (ps_set (i := 1) nd rfl (.inl rfl) (pe_op op_cat (pv 1) (pe_lc (own := [("_law_k", 4)]) (g := gName 4) (tt := tYes) rfl nd (pi_range1 (by rfl) T.range (pa_cons (pe_callB call_len_seq (by rfl) T.len PySem.boot_len (pa_cons (pv 3) pa_nil)) pa_nil)) (blkOk_by (N := ["_law_layout_here", "_law_found", "_law_number", "_law_ends", "_law_k"]) (sc := defScope s__law_all_ends) (by decide +kernel)) (fun _ _ _ _ _ => (pg_name (i := 4) nd rfl (.inl rfl) (.inr rfl))) (fun _ _ _ _ _ => pts_nil) (fun _ _ _ _ _ => (pe_lst (pa_cons (pe_callTy call_int1 (by rfl) T.int PyProof.Rows.boot_int (pa_cons (pv 2) pa_nil)) (pa_cons (pe_callTy call_int1 (by rfl) T.int PyProof.Rows.boot_int (pa_cons (pv 4) pa_nil)) (pa_cons (pe_ix (r := rIx K) ix_seq (pv 3) (pv 4) (fun _ _ => rfl)) pa_nil)))))))))) pss_nil)))
      (pss_one (ps_ret (pv 1))))), ?_⟩
  refine a_setL (R := tx) (el_lst (K := K) [] ea_nil (by decide)) fun l xs0 H1 hl e1 hx t1 => ?_
  have t1 := tks_nil.mp t1
  subst t1
  refine a_forS (Re := tx) (R := tx) (ei_rng1 (K := K) (n := ((L.map itemK).length : Int)) (ea_one (ed_len _ (fun _ _ _ h => h) (ED.s_of_l (ed_v (v := v1) (d := dL tx K (L.map itemK)) rfl ((dL tx K (L.map itemK)).mono e1 h1))))) ⟨by omega, by rw [List.length_map]; omega⟩) (fun _ e => e)
    (fun i σ H2 => ∃ r xs y2 y3, σ = [some v1, some (.ref r), y2, y3, none] ∧ H r = none ∧ H2 r = some (.lst xs) ∧ RowsP K (allT (numd 0 (L.take i))) H2 xs)
    (fun H2 e2 => ⟨l, [], none, none, rfl, hl, e2 _ _ hx, RowsP.nil⟩) (fun Hb eb i y σ' H' H2 hi e2 hP e3 hy => ?_) fun σ' H' e2 hP => ?_
  · obtain ⟨r, xs, y2, y3, rfl, hr0, hx1, hrows⟩ := hP
    have hy := pN hy
    subst hy
    have hi : i < L.length := by rw [List.length_map] at hi; omega
    obtain ⟨o, ho, _⟩ := item_at hi
    have eH2 := ((Ex.trans e1 eb).trans e2).trans e3
    have hlay : ∀ σ H3, Ex H2 H3 → σ[0]? = some (some v1) → σ[2]? = some (some (.int (i : Nat))) → ED tx (tOp (rIx K) (tVar 0) (tVar 2)) σ H3 (dK tx K (itemK o)) := fun σ H3 e4 s1 s2 =>
      ed_ixL (item_atI ho) (ed_v (v := v1) (d := dL tx K (L.map itemK)) s1 ((dL tx K (L.map itemK)).mono (Ex.trans eH2 e4) h1)) (ed_num s2)
    refine a_if (R := tx) (et_v (ed_notN (K := K) (k := itemK o) (hlay _ _ (Ex.refl _) rfl rfl) ed_non)) (fun hb H3 e4 => ?_) (fun hb H3 e4 => ?_)
    · cases o with
      | none => simp [itemK] at hb
      | some p =>
        obtain ⟨c, po⟩ := p
        have hl0 := ed_ixT (K := K) (R := tx) (tb := tC (.int 0)) (ks := [.text c.str, poseK po]) (i := 0) (k := .text c.str) rfl (hlay [some v1, some (.ref r), some (.int (i : Nat)), y3, none] H3 e4 rfl rfl) ed_int
        have hl1 := ed_ixT (K := K) (R := tx) (tb := tC (.int 1)) (ks := [.text c.str, poseK po]) (i := 1) (k := poseK po) rfl (hlay [some v1, some (.ref r), some (.int (i : Nat)), y3, none] H3 e4 rfl rfl) ed_int
        refine a_setL (R := tx) (el_ends hl0 hl1) fun r2 zs H4 hr2 e5 hz tz => ?_
        have hrows4 := RowsQ.ex hrows ((Ex.trans e3 e4).trans e5)
        have lcr : EL tx (tLc (iRng1 (tCons (tCB (fun xs H Q => ∃ p ys, xs = [V.ref p] ∧ (SqL K H p ys ∨ SqT K H p ys) ∧ Q (.int ys.length) H) (tCons (tVar 3) tNil)) tNil)) (gName 4) tYes (tLst (tCons (tCB (fun xs H Q => (∃ i, xs = [V.int i] ∧ Q (.int i) H) ∨ ∃ k, xs = [V.bl k] ∧ Q (.int (if k then 1 else 0)) H) (tCons (tVar 2) tNil)) (tCons (tCB (fun xs H Q => (∃ i, xs = [V.int i] ∧ Q (.int i) H) ∨ ∃ k, xs = [V.bl k] ∧ Q (.int (if k then 1 else 0)) H) (tCons (tVar 4) tNil)) (tCons (tOp (rIx K) (tVar 3) (tVar 4)) tNil)))) [4])
            [some v1, some (.ref r), some (.int (i : Nat)), some (.ref r2), none] H4 (RowsP K (endT i (endsOf c po))) := by
          have h0 := el_lcRows (K := K) (σ := [some v1, some (.ref r), some (.int (i : Nat)), some (.ref r2), none]) (H := H4) (g := gName 4) (vs := [4]) (te := tLst (tCons (tCB (fun xs H Q => (∃ i, xs = [V.int i] ∧ Q (.int i) H) ∨ ∃ k, xs = [V.bl k] ∧ Q (.int (if k then 1 else 0)) H) (tCons (tVar 2) tNil)) (tCons (tCB (fun xs H Q => (∃ i, xs = [V.int i] ∧ Q (.int i) H) ∨ ∃ k, xs = [V.bl k] ∧ Q (.int (if k then 1 else 0)) H) (tCons (tVar 4) tNil)) (tCons (tOp (rIx K) (tVar 3) (tVar 4)) tNil))))
            (fun k => rowK (i, k, (endsOf c po).getD k home)) (ei_rng1 (Re := tx) (R := tx) (K := K) (n := (((endsOf c po).map poseK).length : Int)) (ea_one (ed_len (fun xs H Q => ∃ p ys, xs = [V.ref p] ∧ (SqL K H p ys ∨ SqT K H p ys) ∧ Q (.int ys.length) H) (fun _ _ _ h => h) (ED.s_of_l (ed_lst (n := 3) rfl trivial hz tz)))) ⟨by omega, by rw [List.length_map]; have := endsOf_len c po; omega⟩)
            (by rw [List.length_map]; have := endsOf_len c po; omega) (fun k v H5 hlt e6 hv Q1 k1 => by
              have hv := pN hv
              subst hv
              have hlt2 : k < (endsOf c po).length := by rw [List.length_map] at hlt; omega
              refine k1 _ _ rfl (Ex.refl _) (el_lst (rowK (i, k, (endsOf c po).getD k home)) (ea_cons (ed_int1 _ (fun _ _ _ h => h) (ed_num (n := 2) rfl)) (ea_cons (ed_int1 _ (fun _ _ _ h => h) (ed_num (n := 4) rfl)) (ea_one (ed_ixL (K := K) (ks := (endsOf c po).map poseK) ?_ (ed_lst (n := 3) rfl trivial (e6 _ _ hz) (tz.ex e6)) (ed_num (n := 4) rfl))))) (by show 3 ≤ 100000; decide))
              rw [at_nat, List.getElem?_map, get_lt (d := home) hlt2]
              rfl)
          have el : (((endsOf c po).map poseK).length : Int).toNat = (endT i (endsOf c po)).length := by
            unfold endT
            rw [List.length_map, List.length_map, List.length_range]
            omega
          rw [el] at h0
          refine h0.imp fun H5 xs hq => ⟨hq.1, fun k x hx => ?_⟩
          obtain ⟨a, ys, q1, q2, q3⟩ := hq.2 k x hx
          have hk : k < (endsOf c po).length := by
            have h9 := (List.getElem?_eq_some_iff.mp hx).1
            rw [hq.1] at h9
            unfold endT at h9
            rw [List.length_map, List.length_range] at h9
            exact h9
          have eg : (endT i (endsOf c po)).getD k (0, 0, home) = (i, k, (endsOf c po).getD k home) := by
            unfold endT
            rw [List.getD_eq_getElem?_getD, List.getElem?_map, List.getElem?_range hk]
            rfl
          refine ⟨a, ys, q1, q2, ?_⟩
          show Tks K H5 (rowK ((endT i (endsOf c po)).getD k (0, 0, home))) ys
          rw [eg]
          exact q3
        refine a_lastL (R := tx) (el_catV (n := 1) (P2 := RowsP K (endT i (endsOf c po))) (P3 := RowsP K (allT (numd 0 (L.take (i + 1))))) rfl (((Ex.trans e3 e4).trans e5) _ _ hx1) lcr (fun H5 ys t => ?_) fun H5 H6 ys eA eB t => ?_) fun r3 us H5 hr3 e6 hu tu => ?_
        · have q1 : xs.length = (allT (numd 0 (L.take i))).length := hrows.1
          have q2 : ys.length = (endT i (endsOf c po)).length := t.1
          have q3 := endT_len i c po
          have q4 := allT_len (numd 0 (L.take i))
          have q5 := numd_len 0 (L.take i)
          rw [List.length_take] at q5
          omega
        · rw [numd_take ho, allT_app]
          have e9 : allT (numd i [some (c, po)]) = endT i (endsOf c po) := List.append_nil _
          rw [e9]
          exact RowsP.app (RowsQ.ex hrows4 (Ex.trans eA eB)) (RowsQ.ex t eB)
        · exact ⟨(((Ex.trans e2 e3).trans e4).trans e5).trans e6, r3, us, _, _, rfl, fresh_back ((eH2.trans e4).trans e5) hr3, hu, tu⟩
    · cases o with
      | some p => simp [itemK, pieceK] at hb
      | none =>
        refine ⟨(Ex.trans e2 e3).trans e4, r, xs, _, _, rfl, hr0, (Ex.trans e3 e4) _ _ hx1, ?_⟩
        rw [numd_take ho]
        have e9 : numd 0 (L.take i) ++ numd i [none] = numd 0 (L.take i) := List.append_nil _
        rw [e9]
        exact RowsQ.ex hrows (Ex.trans e3 e4)
  · obtain ⟨r, xs, y2, y3, rfl, hr0, hx1, hrows⟩ := hP
    have e9 : ((L.map itemK).length : Int).toNat = L.length := by rw [List.length_map]; omega
    rw [e9, List.take_length] at hrows
    refine a_ret (R := tx) (ed_ref (n := 1) (l := r) rfl) fun v H4 e4 hv => ?_
    have hv : v = .ref r := hv
    subst hv
    exact q r xs H4 hr0 ((Ex.trans e1 e2).trans e4) (e4 _ _ hx1) (RowsQ.ex hrows e4)
end
end Mk
set_option Elab.async false
set_option linter.all false
set_option maxRecDepth 100000
set_option maxHeartbeats 400000
/-! the law's is_free, shapes -/
namespace Mk
open PySem PySem.Spec PyProof.Rows L2 Evl
def endsAll (ps : List Piece) : List P5 := ps.flatMap fun p => endsOf p.1 p.2
def spIsFree (K : PySem.W.Frag) : Sp := fun vs H Q _ => ∃ (L : Lay) (ps : List Piece), L.length ≤ 1000 ∧ ps.length ≤ 1000 ∧ DA [dL tx K (L.map itemK), dL tx K (ps.map pieceK)] H vs ∧
  ∀ b H', Ex H H' → (b = true → (eps L).Nodup → (eps L ++ endsAll ps).Nodup) → Q (.bl b) H'
theorem endsAll_take {ps : List Piece} {i : Nat} (hi : i < ps.length) {d : Piece} : endsAll (ps.take (i + 1)) = endsAll (ps.take i) ++ endsOf (ps.getD i d).1 (ps.getD i d).2 := by
  unfold endsAll
  rw [List.take_add_one, get_lt (d := d) hi, List.flatMap_append]
  congr 1
  exact List.append_nil _
theorem endsAll_len (ps : List Piece) : (endsAll ps).length ≤ 4 * ps.length := by
  induction ps with
  | nil => exact Nat.le_refl _
  | cons p ps ih =>
    show (endsOf p.1 p.2 ++ endsAll ps).length ≤ _
    have := endsOf_len p.1 p.2
    rw [List.length_append, List.length_cons]
    omega
theorem mem_poseKs {e : P5} {l : List P5} : poseK e ∈ l.map poseK ↔ e ∈ l := by
  rw [List.mem_map]
  exact ⟨fun ⟨x, hx, h⟩ => poseK_inj h ▸ hx, fun h => ⟨e, h, rfl⟩⟩
def pc0d : Piece := (.S, home)
section
variable {P : Program} {w : World} {K : PySem.W.Frag} {mg : Str → Option Value} {base : Heap} {d : Da}
theorem ok__law_is_free (T : Tx w K mg d) : FnOk P w K mg base CX0 6 (d.f 27) (d.fd 27) ["_law_layout_here", "_law_pieces"] (spIsFree K) := by
  have nd := sc__law_is_free.nd
  refine T._law_is_free.fn.ok sc__law_is_free (fun vs H Q E h => ?_) (fun cdv A outer s H vs Q E hr h => ?_)
  · obtain ⟨_, _, _, _, h, _⟩ := h
    exact h.len
  obtain ⟨L, ps, hL, hps, ht, q⟩ := h
  obtain ⟨v1, v2, rfl, h1, h2⟩ := da2 ht
  refine ⟨_, (pss_cons (ps_setLc (own := [("_law_row", 6)]) (g := gName 6) (tt := tYes) (i := 2) rfl nd rfl rfl (sw_true rfl rfl rfl (by decide +kernel)) (pi_list (pc T._law_all_ends (ok__law_all_ends T) (hr.mono (by decide)) (pa_cons (pv 0) pa_nil))) (blkOk_by (N := ["_law_layout_here", "_law_pieces", "_law_seen_here", "_law_kind", "_law_pose_here", "_law_end", "_law_row"]) (sc := defScope s__law_is_free) (by decide +kernel)) (fun _ _ _ _ _ => (pg_name (i := 6) nd rfl (.inl rfl) (.inr rfl))) (fun _ _ _ _ _ => pts_nil) (fun _ _ _ _ _ => (pe_ix (r := rIx K) ix_seq (pv 6) pe_int (fun _ _ => rfl))))
      (pss_cons (ps_for PassesOwn.never rfl (pi_list (pv 1)) (pg_tup rfl (pgs_cons (pg_name (i := 3) nd rfl (.inl rfl)) (pgs_cons (pg_name (i := 4) nd rfl (.inl rfl)) pgs_nil))) (pss_one (ps_for PassesOwn.never rfl (pi_list (pc T._law_ends_of (ok__law_ends_of T) (hr.mono (by decide)) (pa_cons (pv 3) (pa_cons (pv 4) pa_nil)))) (pg_name (i := 5) nd rfl (.inl rfl)) (pss_cons (ps_if (pt_cmpR (op_inD (hu65 hr)) (pv 5) (pv 2) (by rfl)) (pss_one (ps_ret pe_bl)) pss_nil)
      (pss_one (ps_expr (pe_bm PySem.F.plainAttrs_list PySem.F.slot_list_append PySem.F.type_list_append mt_append (pv 2) (pa_cons (pv 5) pa_nil))))))))
      (pss_one (ps_ret pe_bl)))), ?_⟩
  -- seen
  have hseen : ELk tx K (tLc (iList K (tCall (spAllEndsL K) [] E0 (tCons (tVar 0) tNil))) (gName 6) tYes (tOp (rIx K) (tVar 6) (tC (.int 2))) [6]) (start ["_law_layout_here", "_law_pieces", "_law_seen_here", "_law_kind", "_law_pose_here", "_law_end", "_law_row"] [v1, v2]) H ((eps L).map poseK) := by
    have er : (eps L).map poseK = (List.range (allT (numd 0 L)).length).map fun i => poseK ((allT (numd 0 L)).getD i (0, 0, home)).2.2 := by
      rw [← allT_eps, List.map_map]
      exact (range_getD (f := fun t : Nat × Nat × P5 => poseK t.2.2)).symm
    rw [er]
    refine el_lcA (K := K) _ (ei_rows (n := (allT (numd 0 L)).length) (kss := fun i => rowK ((allT (numd 0 L)).getD i (0, 0, home))) (el_allEnds hL (ed_v (v := v1) (d := dL tx K (L.map itemK)) rfl h1))) ?_ fun i v H2 hlt e2 hv Q1 k1 => ?_
    · have := allT_len (numd 0 L)
      have := numd_len 0 L
      omega
    · exact k1 _ _ rfl (Ex.refl _) (ed_ixL (K := K) (ks := rowK ((allT (numd 0 L)).getD i (0, 0, home))) (i := 2) rfl (ed_row (n := 6) rfl hv) ed_int)
  refine a_setL (R := tx) hseen fun l xs0 H1 hl e1 hx0 t0 => ?_
  obtain ⟨a2, xs2, ev2, _, hx2, ht2⟩ := h2
  subst ev2
  have hps2 : xs2.length = ps.length := by rw [ht2.len, List.length_map]
  refine a_forS (Re := tx) (R := tE l) (ei_listB (K := K) (a := a2) (xs := xs2) (n := 1) (m := ps.length) (ds := fun i => dK (tE l) K (pieceK (ps.getD i pc0d))) hl e1 rfl hx2 hps2 (fun H' e i x hx => by
      obtain ⟨k, hk, t⟩ := ht2.of_at hx
      have hi : i < ps.length := by have := (List.getElem?_eq_some_iff.mp hx).1; omega
      rw [List.getElem?_map, get_lt (d := pc0d) hi] at hk
      cases hk
      exact t.ex e)) (fun _ e => (tE l).ex e)
    (fun i σ H => ∃ y3 y4 y5 xs, σ = [some v1, some (.ref a2), some (.ref l), y3, y4, y5, none] ∧ H l = some (.lst xs) ∧ Tks K H ((eps L ++ endsAll (ps.take i)).map poseK) xs ∧ ((eps L).Nodup → (eps L ++ endsAll (ps.take i)).Nodup))
    (fun H2 e2 => ⟨none, none, none, xs0, rfl, e2 _ _ hx0, by
      have e : eps L ++ endsAll (ps.take 0) = eps L := List.append_nil _
      rw [e]
      exact Tks.ex t0 e2, fun h => by
      have e : eps L ++ endsAll (ps.take 0) = eps L := List.append_nil _
      rw [e]
      exact h⟩) (fun Hb eb i y σ' H' H2 hi e2 hP e3 hy => ?_) fun σ' H' e2 hP => ?_
  · obtain ⟨y3, y4, y5, xs, rfl, hx1, ht1, hn1⟩ := hP
    generalize hp : ps.getD i pc0d = pp at hy
    obtain ⟨c, po⟩ := pp
    obtain ⟨a, ys, rfl, hy1, ty⟩ := pT (R := tE l) (ks := [.text c.str, poseK po]) hy
    obtain ⟨w1, w2, rfl, g1, g2⟩ := tks2 ty
    rw [tk_text.mp g1] at hy1
    refine ⟨a, _, rfl, hy1.sq, rfl, _, _, rfl, _, _, rfl, rfl, ?_⟩
    have hl2 := e3 _ _ hx1
    refine a_for (Re := tx) (R := tE l) (ei_listN (K := K) (ks := (endsOf c po).map poseK) (el_ends (ed_txt (n := 3) rfl) (ed_key (n := 4) rfl g2)) (fun p hp z => by rw [z, hl2] at hp; cases hp)) (fun _ e => (tE l).ex e)
      (fun k σ H => ∃ y5 xs, σ = [some v1, some (.ref a2), some (.ref l), some (.str c.str), some w2, y5, none] ∧ H l = some (.lst xs) ∧ Tks K H ((eps L ++ endsAll (ps.take i) ++ (endsOf c po).take k).map poseK) xs ∧ ((eps L).Nodup → (eps L ++ endsAll (ps.take i) ++ (endsOf c po).take k).Nodup))
      (fun H3 e4 => ⟨y5, xs, rfl, e4 _ _ hl2, by
        rw [List.take_zero, List.append_nil]
        exact (ht1.ex e3).ex e4, by
        rw [List.take_zero, List.append_nil]
        exact hn1⟩) (fun Hc ec k y σ' H3 H4 hk e4 hP e5 hy => ?_) fun σ' H3 e4 hP => ?_
    · obtain ⟨z5, zs, rfl, hz, tz, hn⟩ := hP
      rw [List.length_map] at hk
      rw [getD_map (d := home) (f := poseK) hk] at hy
      generalize he : (endsOf c po).getD k home = e at hy
      refine a_ifS (R := tx) (et_v (ed_inD (K := K) (k := poseK e) (js := (eps L ++ endsAll (ps.take i) ++ (endsOf c po).take k).map poseK) (poseK_nice _) (fun k hk => by
        obtain ⟨p, _, rfl⟩ := List.mem_map.mp hk
        exact poseK_nice p) (ed_key (n := 5) rfl hy) (ed_lst (n := 2) rfl trivial (e5 _ _ hz) (tz.ex e5)))) (fun hb H5 e6 => ?_) (fun hb H5 e6 => ?_)
      · refine a_ret (R := tx) ed_bl fun v H6 e7 hv => ?_
        have hv : v = .bl false := hv
        subst hv
        refine q false H6 ?_ (fun z => by cases z)
        exact (ex_of_tE hl e1 ((tE l).trans eb ((tE l).trans e2 ((tE l).trans ((tE l).ex e3) ((tE l).trans ec ((tE l).trans e4 ((tE l).ex ((Ex.trans e5 e6).trans e7)))))))
          )
      · refine a_app (R := tx) (d := dK tx K (poseK e)) ((Ex.trans e5 e6) _ _ hz) trivial (ed_ref (n := 2) rfl) (ed_key (n := 5) rfl (Tk.ex hy e6)) ?_ fun v H6 e7 hv hl6 => ?_
        · have q1 := eps_len L
          have q2 := endsAll_len (ps.take i)
          have q3 := endsOf_len c po
          rw [tz.len, List.length_map, List.length_append, List.length_append, List.length_take]
          rw [List.length_take] at q2
          omega
        · have ts : TSt H6 (upd H6 l (.lst (zs ++ [v]))) := (TSt.refl H6).lst hl6
          have hni : e ∉ eps L ++ endsAll (ps.take i) ++ (endsOf c po).take k := fun z => of_decide_eq_false hb (mem_poseKs.mpr z)
          have etk : (endsOf c po).take (k + 1) = (endsOf c po).take k ++ [e] := by
            rw [List.take_add_one, get_lt (d := home) hk, he]
            rfl
          refine ⟨tE_upd ((tE l).trans e4 ((tE l).ex ((Ex.trans e5 e6).trans e7))) hl6, _, zs ++ [v], rfl, upd_same, ?_, ?_⟩
          · rw [etk, ← List.append_assoc, List.map_append]
            exact ((tz.ex ((Ex.trans e5 e6).trans e7)).to ts).snoc (Tk.to hv ts)
          · intro h0
            rw [etk, ← List.append_assoc, List.nodup_append]
            refine ⟨hn h0, by simp, fun a ha b hb2 => ?_⟩
            rw [List.mem_singleton.mp hb2]
            exact fun z => hni (z ▸ ha)
    · obtain ⟨z5, zs, rfl, hz, tz, hn⟩ := hP
      have e9 : (endsOf c po).take ((endsOf c po).map poseK).length = endsOf c po := by rw [List.length_map, List.take_length]
      have e8 : endsAll (ps.take (i + 1)) = endsAll (ps.take i) ++ endsOf c po := by
        rw [endsAll_take hi (d := pc0d), hp]
      rw [e9] at tz hn
      refine ⟨(tE l).trans e2 ((tE l).trans ((tE l).ex e3) e4), _, _, _, zs, rfl, hz, ?_, ?_⟩
      · rw [e8, ← List.append_assoc]
        exact tz
      · rw [e8, ← List.append_assoc]
        exact hn
  · obtain ⟨y3, y4, y5, xs, rfl, hx1, ht1, hn1⟩ := hP
    rw [List.take_length] at hn1
    refine a_ret (R := tx) ed_bl fun v H6 e7 hv => ?_
    have hv : v = .bl true := hv
    subst hv
    exact q true H6 ((ex_of_tE hl e1 e2).trans e7) fun _ => hn1
def pairsK (m : P5) (L : Lay) : List NestedKey := (shapesL m L).map fun x => pairK x.1 x.2
def spShapesL (K : PySem.W.Frag) : Sp := fun vs H Q _ => ∃ (L : Lay) (m : P5), L.length ≤ 200 ∧ DA [dL tx K (L.map itemK), dK tx K (poseK m)] H vs ∧ NewL K H (ksort (pairsK m L)) Q
theorem el_shapesL {σ : L2.St} {H : Hp} {ta tb : TE} {E : XK} {L : Lay} {m : P5} (hL : L.length ≤ 200) (ha : ED tx ta σ H (dL tx K (L.map itemK))) (hb : ED tx tb σ H (dK tx K (poseK m))) : ELk tx K (tCall (spShapesL K) [] E (tCons ta (tCons tb tNil))) σ H (ksort (pairsK m L)) :=
  el_call (ea_cons ha (ea_one hb)) fun vs H1 _ h Q q => ⟨L, m, hL, h, q⟩
theorem shapesL_len (m : P5) (L : Lay) : (shapesL m L).length ≤ L.length := by
  unfold shapesL
  rw [List.length_map]
  exact numd_len 0 L
theorem sorty_pairs {m : P5} {L : Lay} (hL : L.length ≤ 1000) : Sorty (pairsK m L) := by
  have hform : ∀ k ∈ pairsK m L, ∃ p n, k = pairK (shapeK m p) n := fun k hk => by
    unfold pairsK shapesL at hk
    rw [List.map_map] at hk
    obtain ⟨q, _, rfl⟩ := List.mem_map.mp hk
    exact ⟨q.1, q.2, rfl⟩
  refine ⟨fun x hx y hy => ?_, fun k hk => ?_, fun k hk => ?_, ?_⟩
  · obtain ⟨p, n, rfl⟩ := hform x hx
    obtain ⟨q, j, rfl⟩ := hform y hy
    have h := alike_shapes2 m m p q
    simp only [pairK, NestedKey.data, NestedKey.datas, PySem.W.alike, PySem.W.alikeAll, h, Bool.and_self]
  · obtain ⟨p, n, rfl⟩ := hform k hk
    exact ⟨_, _, rfl⟩
  · obtain ⟨p, n, rfl⟩ := hform k hk
    have h := depth_shp p.1 ((endsOf p.1 p.2).map (laid m))
    refine Nat.le_trans (depth_tup (n := 3) fun k hk => ?_) (by decide)
    simp only [List.mem_cons, List.not_mem_nil, or_false] at hk
    rcases hk with rfl | rfl
    · exact h
    · simp [NestedKey.data, PyData.depth]
  · unfold pairsK
    rw [List.length_map]
    have := shapesL_len m L
    omega
theorem pairsK_take {m : P5} {L : Lay} {i : Nat} {o : Option Piece} (h : L[i]? = some o) : pairsK m (L.take (i + 1)) = pairsK m (L.take i) ++ ((numd i [o]).map fun q => pairK (shapeK m q.1) q.2) := by
  unfold pairsK shapesL
  rw [numd_take h, List.map_append, List.map_append]
  congr 1
  rw [List.map_map]
  rfl
theorem ok__law_shapes (T : Tx w K mg d) : FnOk P w K mg base CX0 5 (d.f 29) (d.fd 29) ["_law_layout_here", "_law_motion"] (spShapesL K) := by
  have nd := sc__law_shapes.nd
  refine T._law_shapes.fn.ok sc__law_shapes (fun vs H Q E h => ?_) (fun cdv A outer s H vs Q E hr h => ?_)
  · obtain ⟨_, _, _, h, _⟩ := h
    exact h.len
  obtain ⟨L, m, hL, ht, q⟩ := h
  obtain ⟨v1, v2, rfl, h1, h2⟩ := da2 ht
  refine ⟨_, (pss_cons (ps_set (i := 2) nd rfl (.inl rfl) (pe_lst pa_nil))
      (pss_cons (ps_for PassesOwn.never rfl (pi_range1 (by rfl) T.range (pa_cons (pe_callB call_len_seq (by rfl) T.len PySem.boot_len (pa_cons (pv 0) pa_nil)) pa_nil)) (pg_name (i := 3) nd rfl (.inl rfl)) (pss_one (ps_if (pt_cmpR op_notN1 (pe_ix ix_seq (pv 0) (pv 3) (fun _ _ => rfl)) pe_non (nomark _)) (pss_cons (ps_asg (pe_ix ix_seq (pv 0) (pv 3) (fun _ _ => rfl)) (pg_tup rfl (pgs_cons (pg_name (i := 5) nd rfl (.inl rfl)) (pgs_cons (pg_name (i := 6) nd rfl (.inl rfl)) pgs_nil))))
      (pss_cons (ps_set (i := 4) nd rfl (.inl rfl) (pe_callB (cr_sortN hr.units) (by rfl) T.sorted PyProof.Rows.boot_sorted (pa_cons (pe_lc (own := [("_law_end", 7)]) (g := gName 7) (tt := tYes) rfl nd (pi_list (pc T._law_ends_of (ok__law_ends_of T) (hr.mono (by decide)) (pa_cons (pv 5) (pa_cons (pv 6) pa_nil)))) (blkOk_by (N := ["_law_layout_here", "_law_motion", "_law_found", "_law_number", "_law_ends", "_law_kind", "_law_pose_here", "_law_end"]) (sc := defScope s__law_shapes) (by decide +kernel)) (fun _ _ _ _ _ => (pg_name (i := 7) nd rfl (.inl rfl) (.inr rfl))) (fun _ _ _ _ _ => pts_nil) (fun _ _ _ _ _ => (pc T._law_laid (ok__law_laid T) (hr.mono (by decide)) (pa_cons (pv 1) (pa_cons (pv 7) pa_nil))))) pa_nil)))
      (pss_one (ps_expr (pe_bm PySem.F.plainAttrs_list PySem.F.slot_list_append PySem.F.type_list_append mt_append (pv 2) (pa_cons (pe_tup (pa_cons (pe_tup (pa_cons (pv 5) (pa_cons (pe_callTy call_tuple_of (by rfl) T.tuple PyProof.Rows.boot_tuple (pa_cons (pv 4) pa_nil)) pa_nil))) (pa_cons (pe_callTy call_int1 (by rfl) T.int PyProof.Rows.boot_int (pa_cons (pv 3) pa_nil)) pa_nil))) pa_nil)))))) pss_nil)))
      (pss_one (ps_ret (pe_callB (cr_sortN hr.units) (by rfl) T.sorted PyProof.Rows.boot_sorted (pa_cons (pv 2) pa_nil)))))), ?_⟩
  refine a_setL (R := tx) (el_lst (K := K) [] ea_nil (by decide)) fun l xs0 H1 hl e1 hx0 t0 => ?_
  have t0 := tks_nil.mp t0
  subst t0
  refine a_forS (Re := tx) (R := tE l) (ei_rng1 (K := K) (n := ((L.map itemK).length : Int)) (ea_one (ed_len _ (fun _ _ _ h => h) (ED.s_of_l (ed_v (v := v1) (d := dL tx K (L.map itemK)) rfl ((dL tx K (L.map itemK)).mono e1 h1))))) ⟨by omega, by rw [List.length_map]; omega⟩) (fun _ e => (tE l).ex e)
    (fun i σ H2 => ∃ xs y3 y4 y5 y6, σ = [some v1, some v2, some (.ref l), y3, y4, y5, y6, none] ∧ H2 l = some (.lst xs) ∧ Tks K H2 (pairsK m (L.take i)) xs)
    (fun H2 e2 => ⟨[], none, none, none, none, rfl, e2 _ _ hx0, tks_nil.mpr rfl⟩) (fun Hb eb i y σ' H' H2 hi e2 hP e3 hy => ?_) fun σ' H' e2 hP => ?_
  · obtain ⟨xs, y3, y4, y5, y6, rfl, hx1, ht1⟩ := hP
    have hy := pN hy
    subst hy
    have hi : i < L.length := by rw [List.length_map] at hi; omega
    obtain ⟨o, ho, _⟩ := item_at hi
    have eH2 : Ex H H2 := (ex_of_tE hl e1 ((tE l).trans eb e2)).trans e3
    have hlay : ∀ σ H3, Ex H2 H3 → σ[0]? = some (some v1) → σ[3]? = some (some (.int (i : Nat))) → ED tx (tOp (rIx K) (tVar 0) (tVar 3)) σ H3 (dK tx K (itemK o)) := fun σ H3 e4 s1 s2 =>
      ed_ixL (item_atI ho) (ed_v (v := v1) (d := dL tx K (L.map itemK)) s1 ((dL tx K (L.map itemK)).mono (Ex.trans eH2 e4) h1)) (ed_num s2)
    refine a_if (R := tx) (et_v (ed_notN (K := K) (k := itemK o) (hlay _ _ (Ex.refl _) rfl rfl) ed_non)) (fun hb H3 e4 => ?_) (fun hb H3 e4 => ?_)
    · cases o with
      | none => simp [itemK] at hb
      | some p =>
        obtain ⟨c, po⟩ := p
        refine a_two (K := K) (k1 := .text c.str) (k2 := poseK po) (hlay _ _ e4 rfl rfl) fun u1 u2 H4 e5 g1 g2 => ?_
        have e24 := Ex.trans e4 e5
        have hm : ((endsOf c po).map (laid m)).map poseK = (List.range ((endsOf c po).map poseK).length).map fun i => poseK (laid m ((endsOf c po).getD i home)) := by
          rw [List.map_map, List.length_map]
          exact (range_getD (f := fun e => poseK (laid m e))).symm
        have hel := endsOf_len c po
        have hends : ELk tx K (tLc (iList K (tCall (spKL K fEndsL) [] E0 (tCons (tVar 5) (tCons (tVar 6) tNil)))) (gName 7) tYes (tCall (spK K fLaid) [] E0 (tCons (tVar 1) (tCons (tVar 7) tNil))) [7]) [some v1, some v2, some (.ref l), some (.int (i : Nat)), y4, some u1, some u2, none] H4 (((endsOf c po).map (laid m)).map poseK) := by
          rw [hm]
          refine el_lcA (K := K) _ (ei_listN (Re := tx) (R := tx) (ks := (endsOf c po).map poseK) (el_ends (ed_key (n := 5) rfl g1) (ed_key (n := 6) rfl g2)) fun _ _ => trivial) (by rw [List.length_map]; omega) fun k v H5 hlt e6 hv Q1 k1 => ?_
          rw [List.length_map] at hlt
          rw [getD_map (d := home) (f := poseK) hlt] at hv
          exact k1 _ _ rfl (Ex.refl _) (ed_callK [poseK m, poseK ((endsOf c po).getD k home)] ⟨_, _, rfl, rfl⟩ (ea_cons (ed_key (n := 1) rfl (Tk.ex h2 ((eH2.trans e24).trans e6))) (ea_one (ed_key (n := 7) rfl hv))))
        refine a_setL (R := tx) (el_sortN (sorty_poses (by rw [List.length_map]; omega)) hends) fun r zs H5 hr5 e6 hz tz => ?_
        have e25 := Ex.trans e24 e6
        refine a_app (R := tx) (d := dK tx K (pairK (shapeK m (c, po)) i)) ((Ex.trans e3 e25) _ _ hx1) trivial (ed_ref (n := 2) rfl) (ed_tup [shapeK m (c, po), .num (i : Nat)] (ea_cons (ed_tup [.text c.str, .tup (ksort (((endsOf c po).map (laid m)).map poseK))] (ea_cons (ed_key (n := 5) rfl (g1.ex e6)) (ea_one (ed_tupOfS _ (fun _ _ _ h => h) (ED.s_of_l (ed_lst (n := 4) rfl trivial hz tz))))) (by show 2 ≤ 100000; decide)) (ea_one (ed_int1 _ (fun _ _ _ h => h) (ed_num (n := 3) rfl)))) (by show 2 ≤ 100000; decide)) ?_ fun v H6 e7 hv hl6 => ?_
        · have q1 := shapesL_len m (L.take i)
          rw [List.length_take] at q1
          rw [ht1.len]
          unfold pairsK
          rw [List.length_map]
          omega
        · have ts : TSt H6 (upd H6 l (.lst (xs ++ [v]))) := (TSt.refl H6).lst hl6
          have eA := (Ex.trans e3 e25).trans e7
          refine ⟨tE_upd ((tE l).trans e2 ((tE l).ex eA)) hl6, xs ++ [v], _, _, _, _, rfl, upd_same, ?_⟩
          rw [pairsK_take ho]
          exact ((ht1.ex eA).to ts).snoc (Tk.to hv ts)
    · cases o with
      | some p => simp [itemK, pieceK] at hb
      | none =>
        refine ⟨(tE l).trans e2 ((tE l).ex (Ex.trans e3 e4)), xs, _, _, _, _, rfl, (Ex.trans e3 e4) _ _ hx1, ?_⟩
        rw [pairsK_take ho]
        show Tks K H3 (pairsK m (L.take i) ++ []) xs
        rw [List.append_nil]
        exact ht1.ex (Ex.trans e3 e4)
  · obtain ⟨xs, y3, y4, y5, y6, rfl, hx1, ht1⟩ := hP
    have e9 : ((L.map itemK).length : Int).toNat = L.length := by rw [List.length_map]; omega
    rw [e9, List.take_length] at ht1
    refine a_retL (R := tx) (el_sortS (K := K) (ks := pairsK m L) (sorty_pairs (by omega)) (ed_lst (n := 2) rfl trivial hx1 ht1)) fun r zs H4 hr4 e4 hz tz => ?_
    exact q r zs H4 (fresh_back (ex_of_tE hl e1 e2) hr4) ((ex_of_tE hl e1 e2).trans e4) hz tz
end
end Mk
set_option Elab.async false
set_option linter.all false
set_option maxRecDepth 100000
set_option maxHeartbeats 400000
/-! the law's motions -/
namespace Mk
open PySem PySem.Spec PyProof.Rows L2 Evl
theorem pairs_form {m : P5} {L : Lay} {k : NestedKey} (hk : k ∈ pairsK m L) : ∃ p n, (p, n) ∈ numd 0 L ∧ k = pairK (shapeK m p) n := by
  unfold pairsK shapesL at hk
  rw [List.map_map] at hk
  obtain ⟨q, hq, rfl⟩ := List.mem_map.mp hk
  exact ⟨q.1, q.2, hq, rfl⟩
theorem pairs_fst (m : P5) (L : Lay) : (ksort (pairsK m L)).map fstK = ksort ((pcs L).map (shapeK m)) := by
  unfold pairsK
  rw [fst_sorted, shapesL_fst]
  rw [shapesL_fst]
  exact alike_shapes m _
theorem fstK_pair (s : NestedKey) (n : Nat) : fstK (pairK s n) = s := rfl
theorem shapes_nice {m : P5} {l : List Piece} : ∀ k ∈ ksort (l.map (shapeK m)), Nice k := fun k hk => by
  obtain ⟨p, _, rfl⟩ := List.mem_map.mp (mem_ksort.mp hk)
  exact shp_nice _ _
theorem hm_nice (m : P5) : Nice (hmK m) := by
  refine nice_tup fun k hk => ?_
  simp only [List.mem_cons, List.not_mem_nil, or_false] at hk
  rcases hk with rfl | rfl
  · simp [NestedKey.data, PyData.canLay0, PyData.depth]
  · exact ⟨(poseK_nice m).1, by rw [depth_pose]; decide⟩
theorem mem_hmKs {e : P5} {l : List P5} : hmK e ∈ l.map hmK ↔ e ∈ l := by
  rw [List.mem_map]
  exact ⟨fun ⟨x, hx, h⟩ => hmK_inj h ▸ hx, fun h => ⟨e, h, rfl⟩⟩
def spMotionsL (K : PySem.W.Frag) : Sp := fun vs H Q _ => ∃ (L : Lay) (e0 : P5) (es : List P5), L.length ≤ 200 ∧ eps L = e0 :: es ∧ DA [dL tx K (L.map itemK)] H vs ∧ NewL K H ((mots L).map poseK) Q
section
variable {K : PySem.W.Frag} {σ : L2.St} {H : Hp} {ta tb te : TE} {E : XK}
theorem el_fst {m : P5} {L : Lay} {j : Nat} (hL : L.length ≤ 200) (hj : j < σ.length) (hw : ∀ x, wipe ((wipe σ [j]).set j (some x)) [j] = wipe σ [j]) (h : ELk tx K te σ H (ksort (pairsK m L))) :
    ELk tx K (tLc (iList K te) (gName j) tYes (tOp (rIx K) (tVar j) (tC (.int 0))) [j]) σ H (ksort ((pcs L).map (shapeK m))) := by
  rw [← pairs_fst]
  have er : (ksort (pairsK m L)).map fstK = (List.range (ksort (pairsK m L)).length).map fun i => fstK ((ksort (pairsK m L)).getD i .none) := (range_getD (f := fstK)).symm
  rw [er]
  refine el_lcA (K := K) _ (ei_listN (Re := tx) (R := tx) h fun _ _ => trivial) ?_ fun i v H2 hlt e2 hv Q1 k1 => ?_
  · rw [ksort_len]
    unfold pairsK
    rw [List.length_map]
    have := shapesL_len m L
    omega
  · have hm := List.mem_of_getElem? (get_lt (d := NestedKey.none) hlt)
    obtain ⟨p, n, _, e⟩ := pairs_form (mem_ksort.mp hm)
    rw [e] at hv k1
    refine k1 _ _ (hw v) (Ex.refl _) (ed_ixT (K := K) (ks := [shapeK m p, .num (n : Nat)]) (i := 0) rfl (ed_v (v := v) ?_ hv) ed_int)
    have : j < (wipe σ [j]).length := by rw [wipe_length]; exact hj
    rw [List.getElem?_set_self this]
theorem el_motionsL {L : Lay} {e0 : P5} {es : List P5} (hL : L.length ≤ 200) (he : eps L = e0 :: es) (ha : ED tx ta σ H (dL tx K (L.map itemK))) : ELk tx K (tCall (spMotionsL K) [] E (tCons ta tNil)) σ H ((mots L).map poseK) :=
  el_call (ea_one ha) fun vs H1 _ h Q q => ⟨L, e0, es, hL, he, h, q⟩
/-- the first row -/
theorem ed_row0 {n : Nat} {r : Addr} {xs : List V} {ts : List (Nat × Nat × P5)} {t : Nat × Nat × P5} {us : List (Nat × Nat × P5)} (hs : σ[n]? = some (some (.ref r))) (hx : H r = some (.lst xs)) (hr : RowsP K ts H xs) (ht : ts = t :: us) : ED tx (tOp (rIx K) (tVar n) (tC (.int 0))) σ H (dL tx K (rowK t)) := fun H1 e Q q => by
  subst ht
  have h0 : 0 < xs.length := by rw [hr.1]; exact Nat.zero_lt_succ _
  obtain ⟨a, ys, h1, h2, h3⟩ := hr.2 0 xs[0] (List.getElem?_eq_getElem h0)
  have h3 : Tks K H (rowK t) ys := h3
  refine ⟨.ref r, hs, .inl ⟨r, xs, 0, xs[0], rfl, rfl, .inl (.inl (e _ _ hx)), (at_nat (i := 0)).trans (List.getElem?_eq_getElem h0), q _ H1 (Ex.refl _) ?_⟩⟩
  exact ⟨a, ys, h1, trivial, .inl (.inl (e _ _ h2)), h3.ex e⟩
end
section
variable {P : Program} {w : World} {K : PySem.W.Frag} {mg : Str → Option Value} {base : Heap} {d : Da}
theorem ok__law_motions (T : Tx w K mg d) : FnOk P w K mg base CX0 6 (d.f 31) (d.fd 31) ["_law_layout_here"] (spMotionsL K) := by
  have nd := sc__law_motions.nd
  refine T._law_motions.fn.ok sc__law_motions (fun vs H Q E h => ?_) (fun cdv A outer s H vs Q E hr h => ?_)
  · obtain ⟨_, _, _, _, _, h, _⟩ := h
    exact h.len
  obtain ⟨L, e0, es, hL, heps, ht, q⟩ := h
  obtain ⟨v1, rfl, h1⟩ := da1 ht
  refine ⟨_, (pss_cons (ps_set (i := 1) nd rfl (.inl rfl) (pc T._law_all_ends (ok__law_all_ends T) (hr.mono (by decide)) (pa_cons (pv 0) pa_nil)))
      (pss_cons (ps_setLc (own := [("_law_pair", 6)]) (g := gName 6) (tt := tYes) (i := 2) rfl nd rfl rfl (sw_true rfl rfl rfl (by decide +kernel)) (pi_list (pc T._law_shapes (ok__law_shapes T) (hr.mono (by decide)) (pa_cons (pv 0) (pa_cons (pc0 T._law_home (ok__law_home T) (hr.mono (by decide))) pa_nil)))) (blkOk_by (N := ["_law_layout_here", "_law_ends", "_law_own", "_law_found", "_law_row", "_law_motion", "_law_pair", "_law_eighths"]) (sc := defScope s__law_motions) (by decide +kernel)) (fun _ _ _ _ _ => (pg_name (i := 6) nd rfl (.inl rfl) (.inr rfl))) (fun _ _ _ _ _ => pts_nil) (fun _ _ _ _ _ => (pe_ix (r := rIx K) ix_seq (pv 6) pe_int (fun _ _ => rfl))))
      (pss_cons (ps_set (i := 3) nd rfl (.inl rfl) (pe_lst pa_nil))
      (pss_cons (ps_for PassesOwn.never rfl (pi_list (pv 1)) (pg_name (i := 4) nd rfl (.inl rfl)) (pss_cons (ps_set (i := 5) nd rfl (.inl rfl) (pc T._law_between (ok__law_between T) (hr.mono (by decide)) (pa_cons (pe_ix ix_seq (pe_ix ix_seq (pv 1) pe_int (fun _ _ => rfl)) pe_int (fun _ _ => rfl)) (pa_cons (pe_ix ix_seq (pv 4) pe_int (fun _ _ => rfl)) pa_nil))))
      (pss_one (ps_if (pw_and (pt_cmpR (op_eqD hr.units) (pe_lc (own := [("_law_pair", 6)]) (g := gName 6) (tt := tYes) rfl nd (pi_list (pc T._law_shapes (ok__law_shapes T) (hr.mono (by decide)) (pa_cons (pv 0) (pa_cons (pv 5) pa_nil)))) (blkOk_by (N := ["_law_layout_here", "_law_ends", "_law_own", "_law_found", "_law_row", "_law_motion", "_law_pair", "_law_eighths"]) (sc := defScope s__law_motions) (by decide +kernel)) (fun _ _ _ _ _ => (pg_name (i := 6) nd rfl (.inl rfl) (.inr rfl))) (fun _ _ _ _ _ => pts_nil) (fun _ _ _ _ _ => (pe_ix (r := rIx K) ix_seq (pv 6) pe_int (fun _ _ => rfl)))) (pv 2) (nomark _)) (pw_and1 (pt_cmpR (op_notInD (hu65 hr)) (pe_tup (pa_cons (pe_ix ix_seq (pv 5) pe_int (fun _ _ => rfl)) (pa_cons (pv 5) pa_nil))) (pv 3) (by rfl)))).pt (pss_one (ps_expr (pe_bm PySem.F.plainAttrs_list PySem.F.slot_list_append PySem.F.type_list_append mt_append (pv 3) (pa_cons (pe_tup (pa_cons (pe_ix ix_seq (pv 5) pe_int (fun _ _ => rfl)) (pa_cons (pv 5) pa_nil))) pa_nil)))) pss_nil))))
      (pss_one (ps_ret (pe_lc (own := [("_law_eighths", 7), ("_law_motion", 5)]) (g := gTup K 2 (gCons (gName 7) (gCons (gName 5) gNil))) (tt := tYes) rfl nd (pi_list (pe_callB (cr_sortN hr.units) (by rfl) T.sorted PyProof.Rows.boot_sorted (pa_cons (pv 3) pa_nil))) (blkOk_by (N := ["_law_layout_here", "_law_ends", "_law_own", "_law_found", "_law_row", "_law_motion", "_law_pair", "_law_eighths"]) (sc := defScope s__law_motions) (by decide +kernel)) (fun _ _ _ _ _ => (pg_tup rfl (pgs_cons (pg_name (i := 7) nd rfl (.inl rfl) (.inr rfl)) (pgs_cons (pg_name (i := 5) nd rfl (.inl rfl) (.inr rfl)) pgs_nil)))) (fun _ _ _ _ _ => pts_nil) (fun _ _ _ _ _ => (pv 5))))))))), ?_⟩
  have hlay : ∀ {H' : Hp} {σ : L2.St}, Ex H H' → σ[0]? = some (some v1) → ED tx (tVar 0) σ H' (dL tx K (L.map itemK)) := fun e hs => ed_v (v := v1) (d := dL tx K (L.map itemK)) hs ((dL tx K (L.map itemK)).mono e h1)
  -- ends
  refine a_setL (R := tx) (el_allEnds (by omega) (hlay (Ex.refl H) rfl)) fun r xr H1 hr1 e1 hxr hrows => ?_
  -- own
  refine a_setL (R := tx) (el_fst (K := K) (m := home) hL (by show 6 < 8; decide) (fun x => rfl) (el_shapesL hL (hlay e1 rfl) (ed_callK [] ⟨rfl, rfl⟩ ea_nil))) fun o xo H2 ho e2 hxo to => ?_
  -- found
  refine a_setL (R := tx) (el_lst (K := K) [] ea_nil (by decide)) fun l xs0 H3 hl e3 hx0 t0 => ?_
  have t0 := tks_nil.mp t0
  subst t0
  have e12 := Ex.trans e1 e2
  obtain ⟨t1, us, hts⟩ : ∃ t us, allT (numd 0 L) = t :: us := by
    cases h : allT (numd 0 L) with
    | nil =>
      have := allT_eps L
      rw [h, heps] at this
      cases this
    | cons t us => exact ⟨t, us, rfl⟩
  have ht12 : t1.2.2 = e0 := by
    have := allT_eps L
    rw [hts, heps] at this
    exact (List.cons.inj this).1
  have hrows2 : RowsP K (allT (numd 0 L)) H2 xr := RowsQ.ex hrows e2
  refine a_forS (Re := tx) (R := tE l) (ei_listB (K := K) (H0 := H2) (a := r) (xs := xr) (n := 1) (m := (allT (numd 0 L)).length) (ds := fun i => dRow (tE l) K (rowK ((allT (numd 0 L)).getD i (0, 0, home)))) hl e3 rfl (.inl (.inl (e2 _ _ hxr))) hrows2.1 (fun H' e i x hx => by
      obtain ⟨a, ys, h1, h2, h3⟩ := hrows2.2 i x hx
      exact ⟨a, ys, h1, ne_of_none h2 hl, e _ _ h2, h3.ex e⟩)) (fun _ e => (tE l).ex e)
    (fun i σ H => ∃ y4 y5 xs, σ = [some v1, some (.ref r), some (.ref o), some (.ref l), y4, y5, none, none] ∧ H l = some (.lst xs) ∧ Tks K H ((motsOf L e0 [] ((eps L).take i)).map hmK) xs)
    (fun H4 e4 => ⟨none, none, [], rfl, e4 _ _ hx0, tks_nil.mpr rfl⟩) (fun Hb eb i y σ' H' H4 hi e4 hP e5 hy => ?_) fun σ' H' e4 hP => ?_
  · obtain ⟨y4, y5, xs, rfl, hx1, ht1⟩ := hP
    have gi : ((allT (numd 0 L)).getD i (0, 0, home)).2.2 = (eps L).getD i home := by
      rw [← allT_eps, List.getD_eq_getElem?_getD, List.getD_eq_getElem?_getD, List.getElem?_map]
      cases h : (allT (numd 0 L))[i]? <;> rfl
    have hi2 : i < (eps L).length := by rw [← allT_eps, List.length_map]; exact hi
    have eH4 : Ex H2 H4 := (ex_of_tE hl e3 ((tE l).trans eb e4)).trans e5
    show tSeq _ _ _ [some v1, some (.ref r), some (.ref o), some (.ref l), some y, y5, none, none] H4
    have hrow := ed_ixL (K := K) (tb := tC (.int 2)) (ks := rowK ((allT (numd 0 L)).getD i (0, 0, home))) (i := 2) (k := poseK ((eps L).getD i home)) (by rw [← gi]; rfl) (ed_row (σ := [some v1, some (.ref r), some (.ref o), some (.ref l), some y, y5, none, none]) (n := 4) rfl hy) ed_int
    have hrow0 := ed_ixL (K := K) (tb := tC (.int 2)) (ks := rowK t1) (i := 2) (k := poseK e0) (by rw [← ht12]; rfl) (ed_row0 (σ := [some v1, some (.ref r), some (.ref o), some (.ref l), some y, y5, none, none]) (H := H4) (n := 1) rfl (eH4 _ _ (e2 _ _ hxr)) (RowsQ.ex hrows2 eH4) hts) ed_int
    refine a_set (R := tx) (d := dK tx K (poseK (between e0 ((eps L).getD i home)))) (ed_callK [poseK e0, poseK ((eps L).getD i home)] ⟨_, _, rfl, rfl⟩ (ea_cons hrow0 (ea_one hrow))) fun vm H5 e6 hvm => ?_
    generalize hm : between e0 ((eps L).getD i home) = m at hvm
    have e25 := eH4.trans e6
    have lmo : (motsOf L e0 [] ((eps L).take i)).length ≤ 800 := by
      have h := motsOf_len L e0 ((eps L).take i) []
      have h2 := eps_len L
      rw [List.length_take] at h
      simp only [List.length_nil] at h
      omega
    have ht : ∀ (t : L2.TT), t = tAnd (tTest (tOp (rEqD K) (tLc (iList K (tCall (spShapesL K) [] E0 (tCons (tVar 0) (tCons (tVar 5) tNil)))) (gName 6) tYes (tOp (rIx K) (tVar 6) (tC (.int 0))) [6]) (tVar 2))) (tTest (tOp (rNotInD K) (tTup (tCons (tOp (rIx K) (tVar 5) (tC (.int 4))) (tCons (tVar 5) tNil))) (tVar 3))) →
        ET tx t [some v1, some (.ref r), some (.ref o), some (.ref l), some y, some vm, none, none] H5 (decide (isMot L m) && !decide (hmK m ∈ (motsOf L e0 [] ((eps L).take i)).map hmK)) := fun t et => by
      subst et
      refine et_and (et_v (ed_eqD (K := K) (ks := ksort ((pcs L).map (shapeK m))) (js := ksort ((pcs L).map (shapeK home))) shapes_nice shapes_nice (ED.of_new (el_fst (K := K) (m := m) hL (by show 6 < 8; decide) (fun x => rfl) (el_shapesL hL (hlay (e12.trans e25) rfl) (ed_key (n := 5) rfl hvm)))) (ed_lst (n := 2) rfl trivial (e25 _ _ hxo) (Tks.ex to e25)))) fun _ => ?_
      refine et_v (ed_notInD (K := K) (k := hmK m) (js := (motsOf L e0 [] ((eps L).take i)).map hmK) (hm_nice m) (fun k hk => ?_) (ed_tup [.num m.h, poseK m] (ea_cons (ed_hd (ed_key (n := 5) rfl hvm)) (ea_one (ed_key (n := 5) rfl hvm))) (by show 2 ≤ 100000; decide)) (ed_lst (n := 3) rfl trivial ((Ex.trans e5 e6) _ _ hx1) (ht1.ex (Ex.trans e5 e6))))
      obtain ⟨p, _, rfl⟩ := List.mem_map.mp hk
      exact hm_nice p
    refine a_if (R := tx) (ht _ rfl) (fun hb H6 e7 => ?_) (fun hb H6 e7 => ?_)
    · rw [Bool.and_eq_true] at hb
      have hM := of_decide_eq_true hb.1
      have hN : m ∉ motsOf L e0 [] ((eps L).take i) := fun z => by
        have := hb.2
        rw [decide_eq_true (mem_hmKs.mpr z)] at this
        cases this
      have e57 := (Ex.trans e5 e6).trans e7
      refine a_app (R := tx) (d := dK tx K (hmK m)) (e57 _ _ hx1) trivial (ed_ref (n := 3) rfl) (ed_tup [.num m.h, poseK m] (ea_cons (ed_hd (ed_key (n := 5) rfl (Tk.ex hvm e7))) (ea_one (ed_key (n := 5) rfl (Tk.ex hvm e7)))) (by show 2 ≤ 100000; decide)) (by rw [ht1.len, List.length_map]; omega) fun v H7 e8 hv hl7 => ?_
      have ts : TSt H7 (upd H7 l (.lst (xs ++ [v]))) := (TSt.refl H7).lst hl7
      refine ⟨tE_upd ((tE l).trans e4 ((tE l).ex (e57.trans e8))) hl7, _, _, xs ++ [v], rfl, upd_same, ?_⟩
      rw [motsOf_take hi2, hm, if_pos hM]
      unfold ins
      rw [if_neg hN, List.map_append]
      exact ((ht1.ex (e57.trans e8)).to ts).snoc (Tk.to hv ts)
    · have e57 := (Ex.trans e5 e6).trans e7
      refine ⟨(tE l).trans e4 ((tE l).ex e57), _, _, xs, rfl, e57 _ _ hx1, ?_⟩
      rw [motsOf_take hi2, hm]
      have hsame : (if isMot L m then ins (motsOf L e0 [] ((eps L).take i)) m else motsOf L e0 [] ((eps L).take i)) = motsOf L e0 [] ((eps L).take i) := by
        split
        · rename_i hM
          rw [decide_eq_true hM, Bool.true_and] at hb
          have hin : m ∈ motsOf L e0 [] ((eps L).take i) := by
            by_cases z : hmK m ∈ (motsOf L e0 [] ((eps L).take i)).map hmK
            · exact mem_hmKs.mp z
            · rw [decide_eq_false z] at hb
              cases hb
          unfold ins
          rw [if_pos hin]
        · rfl
      rw [hsame]
      exact ht1.ex e57
  · obtain ⟨y4, y5, xs, rfl, hx1, ht1⟩ := hP
    have el : (allT (numd 0 L)).length = (eps L).length := by rw [← allT_eps, List.length_map]
    rw [el, List.take_length] at ht1
    have em : mots L = sortBy hmK (motsOf L e0 [] (eps L)) := by
      unfold mots
      rw [heps]
    have lmo : (motsOf L e0 [] (eps L)).length ≤ 800 := by
      have h := motsOf_len L e0 (eps L) []
      have h2 := eps_len L
      simp only [List.length_nil] at h
      omega
    have es2 : ksort ((motsOf L e0 [] (eps L)).map hmK) = (mots L).map hmK := by rw [ksort_map, em]
    have lm : (mots L).length ≤ 800 := by rw [em, (sortBy_perm hmK _).length_eq]; exact lmo
    have ey : (mots L).map poseK = (List.range ((mots L).map hmK).length).map fun i => poseK ((mots L).getD i home) := by
      rw [List.length_map]
      exact range_getD.symm
    have hs := el_sortS (K := K) (R := tx) (σ := [some v1, some (.ref r), some (.ref o), some (.ref l), y4, y5, none, none]) (H := H') (te := tVar 3) (ks := (motsOf L e0 [] (eps L)).map hmK) (sorty_hm (by omega)) (ed_lst (n := 3) rfl trivial hx1 ht1)
    rw [es2] at hs
    have eA : Ex H H' := e12.trans (ex_of_tE hl e3 e4)
    have hfin : ELk tx K (tLc (iList K (tCB (rSortN K) (tCons (tVar 3) tNil))) (gTup K 2 (gCons (gName 7) (gCons (gName 5) gNil))) tYes (tVar 5) [7, 5]) [some v1, some (.ref r), some (.ref o), some (.ref l), y4, y5, none, none] H' ((mots L).map poseK) := by
      rw [ey]
      refine el_lcA (K := K) _ (ei_listN (Re := tx) (R := tx) hs fun _ _ => trivial) (by rw [List.length_map]; omega) fun i v H6 hlt e6 hv2 Q1 k1 => ?_
      rw [List.length_map] at hlt
      rw [getD_map (d := home) (f := hmK) hlt] at hv2
      obtain ⟨a, ys, rfl, hy1, ty⟩ := pT hv2
      obtain ⟨w1, w2, rfl, g1, g2⟩ := tks2 ty
      exact ⟨a, _, rfl, hy1.sq, rfl, _, _, rfl, _, _, rfl, rfl, k1 _ _ rfl (Ex.refl _) (ed_key (n := 5) rfl g2)⟩
    refine a_retL (R := tx) hfin fun r2 zs H6 hr6 e6 hz tz => ?_
    exact q r2 zs H6 (fresh_back eA hr6) (eA.trans e6) hz tz
end
end Mk
set_option Elab.async false
set_option linter.all false
set_option maxRecDepth 100000
set_option maxHeartbeats 400000
/-! the law's box, draws, texts -/
namespace Mk
open PySem PySem.Spec PyProof.Rows L2 Evl
/-- the box: its digits, and where it stands -/
structure Bx (b dg : Addr) (ns : List Int) (H : Hp) : Prop where
  at_ : ∃ n : Int, 0 ≤ n ∧ H b = some (.lst [.ref dg, .int n])
  dig : H dg = some (.lst (ns.map V.int))
  ne : dg ≠ b
/-- the box may go on -/
def tB (b dg : Addr) (ns : List Int) : Tr where
  r H H' := (tE b).r H H' ∧ (Bx b dg ns H → Bx b dg ns H')
  refl H := ⟨(tE b).refl H, fun h => h⟩
  trans a c := ⟨(tE b).trans a.1 c.1, fun h => c.2 (a.2 h)⟩
  ts a := a.1.2.1
  ex e := ⟨(tE b).ex e, fun ⟨⟨n, h1, h2⟩, h3, h4⟩ => ⟨⟨n, h1, e _ _ h2⟩, e _ _ h3, h4⟩⟩
  ok a := a ≠ b
  keep e n h := e.1.1 _ _ n h
  fresh e h := e.1.2.2 _ h
/-- a number of which is told -/
def dI (R : Tr) (p : Int → Prop) : Ds R := ⟨fun _ v => ∃ i, p i ∧ v = .int i, fun _ h => h⟩
/-- a text of letters, its length told -/
def Okw (w : Str) : Prop := ∀ x ∈ lets w, x = "S" ∨ x = "H" ∨ x = "L" ∨ x = "R"
def dX (R : Tr) (lo hi : Nat) : Ds R := ⟨fun _ v => ∃ w : Str, Okw w ∧ lo ≤ w.length ∧ w.length ≤ hi ∧ v = .str w, fun _ h => h⟩
/-- a key of which is told -/
def dE (R : Tr) (K : PySem.W.Frag) (p : NestedKey → Prop) : Ds R := ⟨fun H v => ∃ k, p k ∧ Tk K H k v, fun e ⟨k, h1, h2⟩ => ⟨k, h1, h2.to (R.ts e)⟩⟩
def spDraw (K : PySem.W.Frag) : Sp := fun vs H Q _ => ∃ (b dg : Addr) (ns : List Int) (many : Int), vs = [.ref b, .int many] ∧ 0 < many ∧ Bx b dg ns H ∧ ∀ i H', 0 ≤ i → i < many → (tB b dg ns).r H H' → Q (.int i) H'
section
variable {R : Tr} {K : PySem.W.Frag} {σ : L2.St} {H : Hp} {ta tb tc te : TE} {E : XK} {D : Ends} {tu tw tz : TS} {p1 p2 p3 : Int → Prop}
theorem ed_ixV {n i : Nat} {b : Addr} {xs : List V} {v : V} (hs : σ[n]? = some (some (.ref b))) (hb : H b = some (.lst xs)) (hi : xs[i]? = some v) (h2 : ED tx tb σ H (dK tx K (.num (i : Int)))) : ED tx (tOp (rIx K) (tVar n) tb) σ H (dV tx v) := fun H1 e Q q =>
  ⟨.ref b, hs, h2 H1 e _ fun y H2 e2 py => by
    rw [pN py]
    exact .inl ⟨b, xs, (i : Int), v, rfl, rfl, .inl (.inl ((Ex.trans e e2) _ _ hb)), at_nat.trans hi, q v H2 e2 rfl⟩⟩
theorem ed_opI {g : Int → Int → Int} (ha : ED R ta σ H (dI R p1)) (hb : ED R tb σ H (dI R p2)) (h : ∀ i j, p1 i → p2 j → p3 (g i j)) : ED R (tOp (rI0 fun i j => .int (g i j)) ta tb) σ H (dI R p3) :=
  ed_op ha hb fun x y H1 _ ⟨i, h1, ex⟩ ⟨j, h2, ey⟩ Q q => ⟨i, j, ex, ey, q _ H1 (R.refl H1) ⟨_, h i j h1 h2, rfl⟩⟩
theorem ed_opIc {C : Int → Int → Prop} {g : Int → Int → Int} (ha : ED R ta σ H (dI R p1)) (hb : ED R tb σ H (dI R p2)) (h : ∀ i j, p1 i → p2 j → C i j ∧ p3 (g i j)) : ED R (tOp (rI C fun i j => .int (g i j)) ta tb) σ H (dI R p3) :=
  ed_op ha hb fun x y H1 _ ⟨i, h1, ex⟩ ⟨j, h2, ey⟩ Q q => ⟨i, j, ex, ey, (h i j h1 h2).1, q _ H1 (R.refl H1) ⟨_, (h i j h1 h2).2, rfl⟩⟩
theorem ED.toI {i : Int} (h : ED R te σ H (dK R K (.num i))) (hp : p1 i) : ED R te σ H (dI R p1) := h.imp fun _ _ _ p => ⟨i, hp, pN p⟩
theorem ED.impI (h : ED R te σ H (dI R p1)) (i : ∀ i, p1 i → p2 i) : ED R te σ H (dI R p2) := h.imp fun _ _ _ ⟨j, h1, h2⟩ => ⟨j, i j h1, h2⟩
theorem ed_intI (r : List V → Hp → VK → Prop) (hr : ∀ xs H Q, ((∃ i, xs = [.int i] ∧ Q (.int i) H) ∨ ∃ k, xs = [.bl k] ∧ Q (.int (if k then 1 else 0)) H) → r xs H Q) (h : ED R te σ H (dI R p1)) : ED R (tCB r (tCons te tNil)) σ H (dI R p1) := fun H1 e Q q =>
  h H1 e _ fun v H2 e2 ⟨i, hp, ev⟩ => hr _ _ _ (.inl ⟨i, by rw [ev], q _ H2 e2 ⟨i, hp, rfl⟩⟩)
theorem ed_draw {b dg : Addr} {ns : List Int} {n : Nat} {many : Int} (hs : σ[n]? = some (some (.ref b))) (hm : 0 < many) (hb : Bx b dg ns H) : ED (tB b dg ns) (tCall (spDraw K) [] E (tCons (tVar n) (tCons (tC (.int many)) tNil))) σ H (dI (tB b dg ns) fun i => 0 ≤ i ∧ i < many) := fun H1 e Q q =>
  ⟨.ref b, hs, b, dg, ns, many, rfl, hm, e.2 hb, fun i H' h0 h1 r => q _ H' r ⟨i, ⟨h0, h1⟩, rfl⟩⟩
theorem a_setB {tr : Tr} {i : Nat} {d : Ds tr} (h : ED tr te σ H d) (k : ∀ v H1, tr.r H H1 → d.p H1 v → tz D (σ.set i (some v)) H1) : tSeq (tAsg te (gName i)) tz D σ H := a_set h k

/-! texts -/
theorem tl_app (a b : Str) : lets (a ++ b) = lets a ++ lets b := by
  have h : (a ++ b).cps.toList = a.cps.toList ++ b.cps.toList := by
    show (a.cps ++ b.cps).toList = _
    exact Array.toList_append
  unfold lets
  rw [h, List.map_append]
theorem Okw.app {a b : Str} (ha : Okw a) (hb : Okw b) : Okw (a ++ b) := fun x hx => by
  rw [tl_app, List.mem_append] at hx
  exact hx.elim (ha x) (hb x)
theorem len_app (a b : Str) : (a ++ b).length = a.length + b.length := by
  rw [← lets_len, tl_app, List.length_append, lets_len, lets_len]
def rAddS : R2 := fun x y H Q => ∃ i j, x = .str i ∧ y = .str j ∧ i.length + j.length ≤ sizeLine ∧ Q (.str (i ++ j)) H
theorem ed_addX {a b c d : Nat} (h : b + d ≤ 100000) (ha : ED R ta σ H (dX R a b)) (hb : ED R tb σ H (dX R c d)) : ED R (tOp rAddS ta tb) σ H (dX R (a + c) (b + d)) :=
  ed_op ha hb fun x y H1 _ ⟨u, h1, h2, h3, ex⟩ ⟨v, g1, g2, g3, ey⟩ Q q => ⟨u, v, ex, ey, sz5 (by omega), q _ H1 (R.refl H1) ⟨u ++ v, h1.app g1, by rw [len_app]; omega, by rw [len_app]; omega, rfl⟩⟩
theorem okw_sub {w z : Str} (h : Okw w) (hs : ∀ c ∈ z.cps.toList, c ∈ w.cps.toList) : Okw z := fun x hx => by
  unfold lets at hx
  obtain ⟨c, hc, rfl⟩ := List.mem_map.mp hx
  refine h _ ?_
  unfold lets
  exact List.mem_map.mpr ⟨c, hs c hc, rfl⟩
theorem okw_cut {w : Str} (h : Okw w) (lo hi : Option Int) : Okw (cutS w lo hi) := okw_sub h fun c hc => by
  unfold cutS at hc
  exact List.mem_of_mem_drop (List.mem_of_mem_take hc)
theorem ed_slX {a b : Nat} {tl th : TO} {lo hi : Option Int} (hb : b ≤ 100000) (h : ED R te σ H (dX R a b)) (h1 : ∀ H1, R.r H H1 → EO R tl σ H1 lo) (h2 : ∀ H1, R.r H H1 → EO R th σ H1 hi) : ED R (tSl rSlS te tl th) σ H (dX R 0 b) := fun H1 e Q q =>
  h H1 e _ fun x H2 e2 ⟨w, w1, w2, w3, ex⟩ => h1 H2 (R.trans e e2) H2 (R.refl H2) _ fun H3 e3 => h2 H3 (R.trans (R.trans e e2) e3) H3 (R.refl H3) _ fun H4 e4 =>
    ⟨w, ex, sz5 (by omega), q _ H4 (R.trans e2 (R.trans e3 e4)) ⟨_, okw_cut w1 lo hi, Nat.zero_le _, Nat.le_trans (cutS_length w lo hi) w3, rfl⟩⟩
/-- a cut whose end is told no further -/
theorem ed_slXI {a b : Nat} {tl th : TO} (hb : b ≤ 100000) (h : ED R te σ H (dX R a b)) (h1 : ∀ H1, R.r H H1 → ∀ Q : Option Int → Hp → Prop, (∀ o H2, R.r H1 H2 → Q o H2) → tl σ H1 Q) (h2 : ∀ H1, R.r H H1 → ∀ Q : Option Int → Hp → Prop, (∀ o H2, R.r H1 H2 → Q o H2) → th σ H1 Q) : ED R (tSl rSlS te tl th) σ H (dX R 0 b) := fun H1 e Q q =>
  h H1 e _ fun x H2 e2 ⟨w, w1, w2, w3, ex⟩ => h1 H2 (R.trans e e2) _ fun lo H3 e3 => h2 H3 (R.trans (R.trans e e2) e3) _ fun hi H4 e4 =>
    ⟨w, ex, sz5 (by omega), q _ H4 (R.trans e2 (R.trans e3 e4)) ⟨_, okw_cut w1 lo hi, Nat.zero_le _, Nat.le_trans (cutS_length w lo hi) w3, rfl⟩⟩
theorem ed_lenW {a b : Nat} (r : List V → Hp → VK → Prop) (hr : ∀ xs H Q, (∃ z, xs = [.str z] ∧ z.length ≤ sizeLine ∧ Q (.int z.length) H) → r xs H Q) (hb : b ≤ 100000) (h : ED R te σ H (dX R a b)) : ED R (tCB r (tCons te tNil)) σ H (dI R fun i => (a : Int) ≤ i ∧ i ≤ b) := fun H1 e Q q =>
  h H1 e _ fun v H2 e2 ⟨w, w1, w2, w3, ev⟩ => hr _ _ _ ⟨w, by rw [ev], sz5 (by omega), q _ H2 e2 ⟨w.length, by omega, rfl⟩⟩
end
/-- s[::-1] -/
def tRevS (te : TE) : TE := fun σ H Q => te σ H fun x H1 => ∃ z : Str, x = .str z ∧ z.length ≤ 100000 ∧ ∀ w : Str, (∀ c ∈ w.cps.toList, c ∈ z.cps.toList) → w.length ≤ z.length → Q (.str w) H1
section
variable {X : Cx}
theorem pe_revS {e : Expr} {te : TE} {k : Nat} {p1 p2 p3 pos : Pos} (he : PE X e te) : PE X (.Subscript e (.Slice none none (some (.UnaryOp .USub (.Constant (.int 1) k p1) p2)) p3) pos) (tRevS te) := by
  refine ⟨fun pins s σ H Q I h => ?_⟩
  refine Subscript_ (thn (he.run pins s σ H _ I h) fun v s1 ⟨x, H1, I1, r1, q1⟩ => ?_)
  obtain ⟨z, ex, hz, q⟩ := q1
  subst ex
  obtain ⟨t, rfl⟩ := r1
  have part : PO X (some (.UnaryOp .USub (.Constant (.int 1) k p1) p2)) (tPart (tUn (rU fun i => .int (-i)) (tC (.int 1)))) := po_some (pe_un un_neg pe_int)
  refine wpAny_Slice (thn (po_none.run pins s1 σ H1 (fun o H2 => o = none ∧ H2 = H1) I1 ⟨rfl, rfl⟩) fun vl s2 ⟨l, H2, I2, pl, el, e2⟩ => ?_)
  subst el e2
  refine thn (po_none.run pins s2 σ H2 (fun o H3 => o = none ∧ H3 = H2) I2 ⟨rfl, rfl⟩) fun vu s3 ⟨u, H3, I3, pu, eu, e3⟩ => ?_
  subst eu e3
  refine thn (part.run pins s3 σ H3 (fun o H4 => o = some (-1) ∧ H4 = H3) I3 ⟨1, rfl, -1, rfl, rfl, rfl⟩) fun vs s4 ⟨o, H4, I4, ps, eo, e4⟩ => ?_
  subst eo e4
  have I5 : Inv X pins σ H4 { s4 with heap := s4.heap.push { cls := .type "slice", data := .fields #[vl, vu, vs] } } := I4.kept (t' := s4.toks) fun b ob q => Heap.get?_push_of_some _ q
  obtain ⟨lp, el, hl⟩ := IsPart.raw pl
  obtain ⟨up, eu, hu⟩ := IsPart.raw pu
  obtain ⟨sp, es, hs⟩ := IsPart.raw ps
  have nl : lp = none := by cases lp with | none => rfl | some y => cases hl
  have nu : up = none := by cases up with | none => rfl | some y => cases hu
  subst nl nu
  show wpAny (model X.prog X.w) X.A (subscriptTail e (.Slice none none (some (.UnaryOp .USub (.Constant (.int 1) k p1) p2)) p3) (.str z t) (.ref s4.heap.objs.size)) (EP X pins σ Q) X.xe { s4 with heap := s4.heap.push { cls := .type "slice", data := .fields #[vl, vu, vs] } }
  refine tail_any (ops := [.str z t, .ref s4.heap.objs.size]) (typeIs_str _ _ _) (PySem.F.slot_str_getitem.lookup) ?_ (by with_unfolding_all rfl)
  have hst : ((sp.map (·.1)).getD 1 == 0) = false := by rw [hs]; rfl
  refine wpAny_getItem_str_slice (l := none) (u := none) (st := sp) ⟨_, Heap.get?_push_size _ rfl, rfl, by rw [el, eu, es]⟩ hst ?_
  have ind : (slicePicked z none none sp).length ≤ z.length := by
    unfold slicePicked
    exact sliceIndicesBy_le _ _ _ (by rw [hs]; decide) _
  unfold sliceMade
  have wl : (⟨((slicePicked z none none sp).filterMap (z.cps[·]?)).toArray⟩ : Str).length ≤ z.length := by
    show (((slicePicked z none none sp).filterMap (z.cps[·]?)).toArray).size ≤ _
    rw [List.size_toArray]
    exact Nat.le_trans (List.length_filterMap_le _ _) ind
  by_cases c : ((sp.map (·.1)).getD 1 == 1 && (slicePicked z none none sp).length == z.length) = true
  · rw [if_pos c]
    exact ⟨.str z, H4, I5, ⟨t, rfl⟩, q z (fun c hc => hc) (Nat.le_refl _)⟩
  · rw [if_neg c]
    refine ⟨Nat.le_trans wl (sz_of hz), .str _, H4, I5.tok _, ⟨_, rfl⟩, q _ (fun c hc => ?_) wl⟩
    have hc : c ∈ (slicePicked z none none sp).filterMap (z.cps[·]?) := hc
    obtain ⟨i, _, hi⟩ := List.mem_filterMap.mp hc
    rw [← Array.getElem?_toList] at hi
    exact List.mem_of_getElem? hi
end
theorem ed_revX {R : Tr} {σ : L2.St} {H : Hp} {te : TE} {a b : Nat} (hb : b ≤ 100000) (h : ED R te σ H (dX R a b)) : ED R (tRevS te) σ H (dX R 0 b) := fun H1 e Q q =>
  h H1 e _ fun x H2 e2 ⟨w, w1, w2, w3, ex⟩ => ⟨w, ex, by omega, fun z hz hl => q _ H2 e2 ⟨z, okw_sub w1 hz, Nat.zero_le _, by omega, rfl⟩⟩
section
variable {P : Program} {w : World} {K : PySem.W.Frag} {mg : Str → Option Value} {base : Heap} {d : Da}
theorem tB_upd {b dg : Addr} {ns : List Int} {H H' : Hp} {n : Int} (h0 : Bx b dg ns H) (e : Ex H H') (hn : 0 ≤ n) : (tB b dg ns).r H (upd H' b (.lst [.ref dg, .int n])) := by
  obtain ⟨m, _, hb⟩ := h0.at_
  refine ⟨tE_upd ((tE b).ex e) (e _ _ hb), fun _ => ⟨⟨n, hn, upd_same⟩, ?_, h0.ne⟩⟩
  rw [upd_ne h0.ne]
  exact e _ _ h0.dig
theorem ok__law_draw (T : Tx w K mg d) : FnOk P w K mg base CX0 1 (d.f 15) (d.fd 15) ["_law_box", "_law_many"] (spDraw K) := by
  have nd := sc__law_draw.nd
  refine T._law_draw.fn.ok sc__law_draw (fun vs H Q E h => ?_) (fun cdv A outer s H vs Q E hr h => ?_)
  · obtain ⟨_, _, _, _, rfl, _⟩ := h
    rfl
  obtain ⟨b, dg, ns, many, rfl, hm, hb, q⟩ := h
  obtain ⟨n, hn, hb1⟩ := hb.at_
  refine ⟨_, (pss_cons (ps_set (i := 2) nd rfl (.inl rfl) (pe_ix ix_seq (pv 0) pe_int (fun _ _ => rfl)))
      (pss_cons (ps_asg (pe_op op_add (pv 2) pe_int) (pg_sub (pv 0) pe_int set_list))
      (pss_cons (ps_if (pt_cmpR op_lt (pv 2) (pe_callB call_len_seq (by rfl) T.len PySem.boot_len (pa_cons (pe_ix ix_seq (pv 0) pe_int (fun _ _ => rfl)) pa_nil)) (nomark _)) (pss_one (ps_ret (pe_op op_mod (pe_callTy call_int1 (by rfl) T.int PyProof.Rows.boot_int (pa_cons (pe_ix ix_seq (pe_ix ix_seq (pv 0) pe_int (fun _ _ => rfl)) (pv 2) (fun _ _ => rfl)) pa_nil)) (pv 1)))) pss_nil)
      (pss_one (ps_ret (pe_op op_mod (pe_callTy call_int1 (by rfl) T.int PyProof.Rows.boot_int (pa_cons (pe_op op_add (pe_op op_mul (pv 2) pe_int) pe_int) pa_nil)) (pv 1))))))), ?_⟩
  refine a_set (R := tx) (d := dV tx (.int n)) (ed_ixV (K := K) (n := 0) (i := 1) rfl hb1 rfl ed_int) fun v H1 e1 hv => ?_
  have hv : v = .int n := hv
  subst hv
  refine a_setIx (R := tx) (K := K) (d := dK tx K (.num (n + 1))) (n := 1) (e1 _ _ hb1) trivial (ed_add (ed_num (n := 2) rfl) ed_int) (ed_ref (n := 0) rfl) ed_int (by show 1 < 2; decide) fun v H2 e2 hv hl => ?_
  have hv := pN hv
  subst hv
  have r2 : (tB b dg ns).r H (upd H2 b (.lst [.ref dg, .int (n + 1)])) := tB_upd hb (Ex.trans e1 e2) (by omega)
  show tSeq _ _ _ [some (.ref b), some (.int many), some (.int n)] (upd H2 b (.lst [.ref dg, .int (n + 1)]))
  have b2 : Bx b dg ns (upd H2 b (.lst [.ref dg, .int (n + 1)])) := r2.2 hb
  have hb2 : (upd H2 b (.lst [.ref dg, .int (n + 1)])) b = some (.lst [.ref dg, .int (n + 1)]) := upd_same
  generalize (upd H2 b (.lst [.ref dg, .int (n + 1)])) = H3 at r2 b2 hb2
  have dg0 : ∀ H4, Ex H3 H4 → ED tx (tOp (rIx K) (tVar 0) (tC (.int 0))) [some (.ref b), some (.int many), some (.int n)] H4 (dL tx K (ns.map NestedKey.num)) := fun H4 e4 =>
    (ed_ixV (K := K) (n := 0) (i := 0) (b := b) (v := .ref dg) rfl (e4 _ _ hb2) rfl ed_int).imp fun H5 v e5 hv => ⟨dg, ns.map V.int, hv, trivial, .inl (.inl ((Ex.trans e4 e5) _ _ b2.dig)), Tks.ints ns⟩
  refine a_ifS (R := tx) (et_v (ed_I0b (K := K) (i := n) (j := ((ns.map NestedKey.num).length : Int)) (ed_num (n := 2) rfl) (ed_len _ (fun _ _ _ h => h) (ED.s_of_l (dg0 H3 (Ex.refl _)))))) (fun hb H4 e4 => ?_) (fun hb H4 e4 => ?_)
  · have hlt : n < (ns.length : Int) := by have := of_decide_eq_true hb; rw [List.length_map] at this; exact this
    have en : n = ((n.toNat : Nat) : Int) := by omega
    have hget : atI (ns.map NestedKey.num) n = some (.num (ns.getD n.toNat 0)) := by
      rw [en, at_nat, List.getElem?_map, get_lt (d := 0) (by omega)]
      have : ((n.toNat : Nat) : Int).toNat = n.toNat := by omega
      rw [this]
      rfl
    refine a_ret (R := tx) (ed_mod (K := K) (i := ns.getD n.toNat 0) (j := many) hm (ed_int1 _ (fun _ _ _ h => h) (ed_ixL (K := K) (ks := ns.map NestedKey.num) hget (dg0 H4 e4) (ed_num (n := 2) rfl))) (ed_num (n := 1) rfl)) fun v H5 e5 hv => ?_
    have hv := pN hv
    subst hv
    exact q _ H5 (Int.emod_nonneg _ (by omega)) (Int.emod_lt_of_pos _ hm) ((tB b dg ns).trans r2 ((tB b dg ns).ex (Ex.trans e4 e5)))
  · refine a_ret (R := tx) (ed_mod (K := K) (i := n * 7 + 3) (j := many) hm (ed_int1 _ (fun _ _ _ h => h) (ed_add (ed_mul (.inr ⟨by decide, by decide⟩) (ed_num (n := 2) rfl) ed_int) ed_int)) (ed_num (n := 1) rfl)) fun v H5 e5 hv => ?_
    have hv := pN hv
    subst hv
    exact q _ H5 (Int.emod_nonneg _ (by omega)) (Int.emod_lt_of_pos _ hm) ((tB b dg ns).trans r2 ((tB b dg ns).ex (Ex.trans e4 e5)))
def spPick (K : PySem.W.Frag) : Sp := fun vs H Q _ => ∃ (b dg : Addr) (ns : List Int) (a : Addr) (xs : List V), vs = [.ref b, .ref a] ∧ H a = some (.lst xs) ∧ a ≠ b ∧ xs ≠ [] ∧ Bx b dg ns H ∧ ∀ v H', v ∈ xs → (tB b dg ns).r H H' → Q v H'
theorem ok__law_pick (T : Tx w K mg d) : FnOk P w K mg base CX0 2 (d.f 16) (d.fd 16) ["_law_box", "_law_rows"] (spPick K) := by
  have nd := sc__law_pick.nd
  refine T._law_pick.fn.ok sc__law_pick (fun vs H Q E h => ?_) (fun cdv A outer s H vs Q E hr h => ?_)
  · obtain ⟨_, _, _, _, _, rfl, _⟩ := h
    rfl
  obtain ⟨b, dg, ns, a, xs, rfl, ha, nab, hne, hb, q⟩ := h
  refine ⟨_, (pss_one (ps_ret (pe_ix ix_seq (pv 1) (pe_op op_mod (pe_callTy call_int1 (by rfl) T.int PyProof.Rows.boot_int (pa_cons (pc T._law_draw (ok__law_draw T) (hr.mono (by decide)) (pa_cons (pv 0) (pa_cons pe_int pa_nil))) pa_nil)) (pe_callB call_len_seq (by rfl) T.len PySem.boot_len (pa_cons (pv 1) pa_nil))) (fun _ _ => rfl)))), ?_⟩
  have hlen : 0 < xs.length := List.length_pos_iff.mpr hne
  have hix : ED (tB b dg ns) (tOp (rI (fun _ j => 0 < j) fun i j => .int (i % j)) (tCB (fun xs H Q => (∃ i, xs = [V.int i] ∧ Q (.int i) H) ∨ ∃ k, xs = [V.bl k] ∧ Q (.int (if k then 1 else 0)) H) (tCons (tCall (spDraw K) [] E0 (tCons (tVar 0) (tCons (tC (.int 90)) tNil))) tNil)) (tCB (fun xs H Q => ∃ p ys, xs = [V.ref p] ∧ (SqL K H p ys ∨ SqT K H p ys) ∧ Q (.int ys.length) H) (tCons (tVar 1) tNil)))
      (start ["_law_box", "_law_rows"] [.ref b, .ref a]) H (dI (tB b dg ns) fun i => 0 ≤ i ∧ i < xs.length) := by
    refine ed_opIc (p1 := fun i => 0 ≤ i ∧ i < 90) (p2 := fun j => j = xs.length) (ed_intI _ (fun _ _ _ h => h) (ed_draw rfl (by decide) hb)) (fun H1 e Q1 k1 => ?_) fun i j h1 h2 => ?_
    · exact ⟨.ref a, rfl, a, xs, rfl, .inl (.inl (.inl ((tB b dg ns).keep e nab ha))), k1 _ H1 ((tB b dg ns).refl H1) ⟨_, rfl, rfl⟩⟩
    · subst h2
      exact ⟨by omega, Int.emod_nonneg _ (by omega), Int.emod_lt_of_pos _ (by omega)⟩
  refine ⟨.ref a, rfl, hix H ((tB b dg ns).refl H) _ fun v H2 r2 ⟨i, hi, ev⟩ => ?_⟩
  subst ev
  have hi2 : i.toNat < xs.length := by omega
  have en : i = ((i.toNat : Nat) : Int) := by omega
  refine .inl ⟨a, xs, i, xs[i.toNat], rfl, rfl, .inl (.inl ((tB b dg ns).keep r2 nab ha)), ?_, q _ H2 (List.getElem_mem _) r2⟩
  exact (congrArg (atI xs) en).trans (at_nat.trans (List.getElem?_eq_getElem hi2))
end
end Mk
set_option Elab.async false
set_option linter.all false
set_option maxRecDepth 100000
set_option maxHeartbeats 400000
/-! the law's mirror, placed, cell, digits -/
namespace Mk
open PySem PySem.Spec PyProof.Rows L2 Evl
theorem lets_join : ∀ ys : List Str, lets (Txt.join "" ys) = ys.flatMap lets := by
  have h : ∀ ys : List Str, lets (Str.join "" ys) = ys.flatMap lets := by
    intro ys
    induction ys with
    | nil => exact (by decide +kernel : lets (Str.join "" []) = [])
    | cons x r ih =>
      cases r with
      | nil =>
        show lets x = lets x ++ []
        rw [List.append_nil]
      | cons z r =>
        show lets (x ++ "" ++ Str.join "" (z :: r)) = lets x ++ (z :: r).flatMap lets
        rw [tl_app, tl_app, ih, (by decide +kernel : lets "" = []), List.append_nil]
  intro ys
  rw [TL.join_eq]
  exact h ys
theorem lookup_val {x : Str} : ∀ (ps : List (Str × Str)), valV (ps.map fun p => ((Sum.inr p.1 : L2.Key), V.str p.2)) (Sum.inr x) = (ps.lookup x).map V.str
  | [] => rfl
  | p :: ps => by
    by_cases h : p.1 = x
    · rw [List.map_cons, valV_pos (by rw [h]), List.lookup_cons, h, beq_self_eq_true]
      rfl
    · rw [List.map_cons, valV_neg (fun e => h (Sum.inr.inj e)), lookup_val ps, List.lookup_cons, beq_eq_false_iff_ne.mpr fun e => h e.symm]
theorem pairs_go : ∀ (ps : List (Str × Str)) (σ : L2.St) (H : Hp) (Q : List (V × V) → Hp → Prop), Q (ps.map fun p => (V.str p.1, V.str p.2)) H → tPairs (ps.map fun p : Str × Str => (tC (.str p.1), tC (.str p.2))) σ H Q
  | [], _, _, _, h => h
  | p :: ps, σ, H, Q, h => pairs_go ps σ H (fun qs H3 => Q ((V.str p.1, V.str p.2) :: qs) H3) h
section
variable {R : Tr} {K : PySem.W.Frag} {σ : L2.St} {H : Hp} {ta tb ty tz te : TE} {E : XK}
theorem ed_dispGet {x y : Str} (ps : List (Str × Str)) (hn : (ps.map fun p : Str × Str => p.1).Nodup) (hl : ps.length ≤ 15) (h1 : ED R ty σ H (dK R K (.text x))) (h2 : ED R tz σ H (dK R K (.text y))) (ok : ∀ p, H p = none → R.ok p) :
    ED R (tDGet2 (tDisp (ps.map fun p : Str × Str => (tC (.str p.1), tC (.str p.2)))) ty tz) σ H (dK R K (.text ((ps.lookup x).getD y))) := fun H1 e Q q p hp => by
  refine pairs_go ps σ _ _ ⟨upd_same, ps.map fun p => ((Sum.inr p.1 : L2.Key), V.str p.2), ?_, by rw [List.length_map]; exact hl, ?_⟩
  · rw [List.map_map]
    rfl
  · have nk : (([] ++ ps.map (fun p : Str × Str => ((Sum.inr p.1 : L2.Key), V.str p.2)) : List (L2.Key × V)).map (·.1)).Nodup := by
      rw [List.nil_append, List.map_map]
      have : (ps.map fun p => (Sum.inr p.1 : L2.Key)) = (ps.map (·.1)).map Sum.inr := by rw [List.map_map]; rfl
      show (ps.map fun p => (Sum.inr p.1 : L2.Key)).Nodup
      rw [this, List.Nodup, List.pairwise_map]
      exact List.Pairwise.imp (fun {a b} ne z => ne (Sum.inr.inj z)) hn
    rw [merge_new _ [] nk, List.nil_append]
    have e2 : Ex H1 (upd (upd H1 p (.dK [])) p (.dK (ps.map fun p => ((Sum.inr p.1 : L2.Key), V.str p.2)))) := Ex.mut (Ex.new hp) hp
    have hd : (upd (upd H1 p (.dK [])) p (.dK (ps.map fun p => ((Sum.inr p.1 : L2.Key), V.str p.2)))) p = some (.dK (ps.map fun p => ((Sum.inr p.1 : L2.Key), V.str p.2))) := upd_same
    generalize (upd (upd H1 p (.dK [])) p (.dK (ps.map fun p => ((Sum.inr p.1 : L2.Key), V.str p.2)))) = H2 at e2 hd
    refine ⟨p, rfl, .inl ⟨_, .inl hd⟩, h1 H2 (R.trans e (R.ex e2)) _ fun vx H3 e3 px => h2 H3 (R.trans (R.trans e (R.ex e2)) e3) _ fun vy H4 e4 py => ?_⟩
    have okp := ok p (R.fresh e hp)
    rw [pX px, pX py]
    refine ⟨_, .inl ⟨_, Sum.inr x, .inl (R.keep (R.trans e3 e4) okp hd), rfl, rfl⟩, ?_⟩
    rw [lookup_val]
    have e9 : ((ps.lookup x).map V.str).getD (V.str y) = V.str ((ps.lookup x).getD y) := by
      cases ps.lookup x <;> rfl
    rw [e9]
    exact q _ H4 (R.trans (R.ex e2) (R.trans e3 e4)) mX
end
theorem ed_succ {R : Tr} {K : PySem.W.Frag} {σ : L2.St} {H : Hp} {ta tb : TE} {i : Nat} (ha : ED R ta σ H (dK R K (.num (i : Int)))) (hb : ED R tb σ H (dK R K (.num 1))) : ED R (tOp (rI0 fun i j => .int (i + j)) ta tb) σ H (dK R K (.num ((i + 1 : Nat) : Int))) := by
  have : ((i + 1 : Nat) : Int) = (i : Int) + 1 := by omega
  rw [this]
  exact ed_add ha hb
def mirX (x : Str) : Str := ((([("L", "R"), ("R", "L")] : List (Str × Str)).lookup x).getD x)
theorem mirX_ok {x : Str} (h : x = "S" ∨ x = "H" ∨ x = "L" ∨ x = "R") : lets (mirX x) = [mirX x] ∧ (mirX x = "S" ∨ mirX x = "H" ∨ mirX x = "L" ∨ mirX x = "R") := by
  rcases h with rfl | rfl | rfl | rfl <;> decide +kernel
def spMirror (K : PySem.W.Frag) : Sp := fun vs H Q _ => ∃ w : Str, vs = [.str w] ∧ Okw w ∧ w.length ≤ 1000 ∧ ∀ w' H', Okw w' → w'.length = w.length → Ex H H' → Q (.str w') H'
theorem sum_ones : ∀ {l : List Nat}, (∀ x ∈ l, x = 1) → l.sum = l.length
  | [], _ => rfl
  | x :: l, h => by
    rw [List.sum_cons, List.length_cons, h x List.mem_cons_self, sum_ones fun y hy => h y (List.mem_cons_of_mem _ hy)]
    omega
def bdP (B : Int) (p : P4) : Prop := (-B ≤ p.a ∧ p.a ≤ B) ∧ (-B ≤ p.b ∧ p.b ≤ B) ∧ (-B ≤ p.c ∧ p.c ≤ B) ∧ (-B ≤ p.d ∧ p.d ≤ B)
theorem bd_add {A B : Int} {x y : P4} (hx : bdP A x) (hy : bdP B y) : bdP (A + B) (x.add y) := by
  obtain ⟨⟨_, _⟩, ⟨_, _⟩, ⟨_, _⟩, _, _⟩ := hx
  obtain ⟨⟨_, _⟩, ⟨_, _⟩, ⟨_, _⟩, _, _⟩ := hy
  refine ⟨⟨?_, ?_⟩, ⟨?_, ?_⟩, ⟨?_, ?_⟩, ?_, ?_⟩ <;> simp only [P4.add] <;> omega
theorem bd_neg {A : Int} {x : P4} (hx : bdP A x) : bdP A x.neg := by
  obtain ⟨⟨_, _⟩, ⟨_, _⟩, ⟨_, _⟩, _, _⟩ := hx
  refine ⟨⟨?_, ?_⟩, ⟨?_, ?_⟩, ⟨?_, ?_⟩, ?_, ?_⟩ <;> simp only [P4.neg] <;> omega
theorem bd_mono {A B : Int} {x : P4} (h : bdP A x) (hab : A ≤ B) : bdP B x := by
  obtain ⟨⟨_, _⟩, ⟨_, _⟩, ⟨_, _⟩, _, _⟩ := h
  refine ⟨⟨?_, ?_⟩, ⟨?_, ?_⟩, ⟨?_, ?_⟩, ?_, ?_⟩ <;> omega
theorem bd_rot {A : Int} {x : P4} (e : Int) (h : bdP A x) : bdP A (rot e x) := by
  obtain ⟨⟨_, _⟩, ⟨_, _⟩, ⟨_, _⟩, _, _⟩ := h
  rcases rot_cases e x with ⟨_, h2⟩ | ⟨_, h2⟩ | ⟨_, h2⟩ | ⟨_, h2⟩ | ⟨_, h2⟩ | ⟨_, h2⟩ | ⟨_, h2⟩ | ⟨_, h2⟩ <;> (rw [h2]; refine ⟨⟨?_, ?_⟩, ⟨?_, ?_⟩, ⟨?_, ?_⟩, ?_, ?_⟩ <;> (first | omega | (simp only [] ; omega)))
theorem bd_unit {m B : Int} (k : Int) (h1 : -B ≤ m) (h2 : m ≤ B) : bdP B (unit k m) := bd_rot k ⟨⟨h1, h2⟩, ⟨by show -B ≤ 0; omega, by show 0 ≤ B; omega⟩, ⟨by show -B ≤ 0; omega, by show 0 ≤ B; omega⟩, by show -B ≤ 0; omega, by show 0 ≤ B; omega⟩
theorem bd_step {B : Int} {p : P5} (x : Str) (h : bdP B p.p) : bdP (B + 4) (stepL p x).p := by
  unfold stepL
  split
  · exact bd_mono (bd_add h (bd_unit (B := 2) _ (by split <;> decide) (by split <;> decide))) (by omega)
  · split
    · exact bd_mono (bd_add (bd_add h (bd_unit (B := 2) _ (by decide) (by decide))) (bd_unit (B := 2) _ (by decide) (by decide))) (by omega)
    · exact bd_mono (bd_add (bd_add h (bd_unit (B := 2) _ (by decide) (by decide))) (bd_unit (B := 2) _ (by decide) (by decide))) (by omega)
theorem bd_led {B : Int} {p : P5} (h : bdP B p.p) : ∀ (n : Nat) (xs : List Str), xs.length = n → ∀ q ∈ ledT p xs, bdP (B + 4 * n) q.p
  | 0, [], _, q, hq => by
    rw [List.mem_singleton.mp hq]
    exact bd_mono h (by omega)
  | n + 1, xs, hl, q, hq => by
    have hne : xs ≠ [] := fun z => by rw [z] at hl; cases hl
    have e := List.dropLast_concat_getLast hne
    have hl2 : xs.dropLast.length = n := by rw [List.length_dropLast, hl]; rfl
    rw [← e, ledT_snoc] at hq
    have ih := bd_led h n xs.dropLast hl2
    rcases List.mem_append.mp hq with hq | hq
    · exact bd_mono (ih q hq) (by omega)
    · rw [List.mem_singleton.mp hq]
      have hlast : lastP (ledT p xs.dropLast) ∈ ledT p xs.dropLast := List.mem_of_getLast? (ledT_last _ _)
      exact bd_mono (bd_step _ (ih _ hlast)) (by omega)
def kdOf (x : Str) : Kd := if x = "S" then .S else if x = "H" then .H else .C
theorem kdOf_str {x : Str} (h : x = "S" ∨ x = "H" ∨ x = "L" ∨ x = "R") (hr : x ≠ "R") : ((([("L", "C")] : List (Str × Str)).lookup x).getD x) = (kdOf x).str := by
  rcases h with rfl | rfl | rfl | rfl
  · decide +kernel
  · decide +kernel
  · decide +kernel
  · exact (hr rfl).elim
def spPlaced (K : PySem.W.Frag) : Sp := fun vs H Q _ => ∃ (p : P5) (w : Str), Okw w ∧ w.length ≤ 100 ∧ bdP 50 p.p ∧ Tks K H [poseK p, .text w] vs ∧ ∀ l : List Piece, l.length = w.length → (∀ q ∈ l, bdP 1000 q.2.p) → NewL K H (l.map pieceK) Q
theorem let_at {w : Str} {i : Nat} (hi : i < w.length) : ∃ c, w.cps.toList[i]? = some c ∧ (lets w)[i]? = some ⟨#[c]⟩ := by
  have h : i < w.cps.toList.length := by rw [Array.length_toList]; exact hi
  refine ⟨w.cps.toList[i], List.getElem?_eq_getElem h, ?_⟩
  unfold lets
  rw [List.getElem?_map, List.getElem?_eq_getElem h]
  rfl
section
variable {P : Program} {w : World} {K : PySem.W.Frag} {mg : Str → Option Value} {base : Heap} {d : Da}
theorem ok__law_mirror (T : Tx w K mg d) : FnOk P w K mg base CX0 1 (d.f 23) (d.fd 23) ["_law_row"] (spMirror K) := by
  have nd := sc__law_mirror.nd
  refine T._law_mirror.fn.ok sc__law_mirror (fun vs H Q E h => ?_) (fun cdv A outer s H vs Q E hr h => ?_)
  · obtain ⟨_, rfl, _⟩ := h
    rfl
  obtain ⟨x, rfl, hx, hxl, q⟩ := h
  refine ⟨_, (pss_one (ps_ret (pe_join pe_str (pe_lc (own := [("_law_letter", 1)]) (g := gName 1) (tt := tYes) rfl nd (pi_str (pv 0)) (blkOk_by (N := ["_law_row", "_law_letter"]) (sc := defScope s__law_mirror) (by decide +kernel)) (fun _ _ _ _ _ => (pg_name (i := 1) nd rfl (.inl rfl) (.inr rfl))) (fun _ _ _ _ _ => pts_nil) (fun _ _ _ _ _ => (pe_dget2 (hu_of hr) (pe_disp (pps_cons pe_str pe_str (pps_cons pe_str pe_str pps_nil)) (by rfl) (by rfl) (fun z => by cases z) (by decide)) (pv 1) (pv 1) ⟨by rfl, by rfl, by rfl, by rfl⟩)))))), ?_⟩
  have hcomp : ELk tx K (tLc (iStr (tVar 0)) (gName 1) tYes (tDGet2 (tDisp [(tC (.str "L"), tC (.str "R")), (tC (.str "R"), tC (.str "L"))]) (tVar 1) (tVar 1)) [1]) (start ["_law_row", "_law_letter"] [.str x]) H (((lets x).map mirX).map NestedKey.text) := by
    have er : ((lets x).map mirX).map NestedKey.text = (List.range x.cps.size).map fun i => NestedKey.text (mirX ((lets x).getD i "")) := by
      have : x.cps.size = (lets x).length := (lets_len x).symm
      rw [this, List.map_map]
      exact (range_getD (f := fun y => NestedKey.text (mirX y))).symm
    rw [er]
    refine el_lcA (K := K) _ (ei_str (K := K) (Re := tx) (R := tx) (w := x) (ed_txt rfl)) (by have : x.cps.size = x.length := rfl; omega) fun i v H2 hlt e2 hv Q1 k1 => ?_
    have hv := pX hv
    subst hv
    obtain ⟨c, hc, hl⟩ := let_at (w := x) (i := i) hlt
    have e1 : x.cps.toList.getD i 0 = c := by rw [List.getD_eq_getElem?_getD, hc]; rfl
    have e3 : (lets x).getD i "" = ⟨#[c]⟩ := by rw [List.getD_eq_getElem?_getD, hl]; rfl
    rw [e1]
    rw [e3] at k1
    exact k1 _ _ rfl (Ex.refl _) (ed_dispGet (K := K) (x := ⟨#[c]⟩) (y := ⟨#[c]⟩) [("L", "R"), ("R", "L")] (by decide +kernel) (by decide) (ed_txt (n := 1) rfl) (ed_txt (n := 1) rfl) fun _ _ => trivial)
  refine ⟨⟨_, rfl⟩, hcomp H (Ex.refl H) _ fun p xs H2 hp e2 hxs ht => ?_⟩
  have exs := tp_cons.texts_of ht
  subst exs
  have hok : ∀ y ∈ (lets x).map mirX, lets y = [y] ∧ (y = "S" ∨ y = "H" ∨ y = "L" ∨ y = "R") := fun y hy => by
    obtain ⟨z, hz, rfl⟩ := List.mem_map.mp hy
    exact mirX_ok (hx z hz)
  have hone : ∀ y ∈ (lets x).map mirX, y.length = 1 := fun y hy => by
    rw [← lets_len, (hok y hy).1]
    rfl
  have hsum : (((lets x).map mirX).map (·.length)).sum = x.length := by
    rw [sum_ones fun n hn => by
      obtain ⟨y, hy, rfl⟩ := List.mem_map.mp hn
      exact hone y hy, List.length_map, List.length_map, lets_len]
  have hj : lets (Txt.join "" ((lets x).map mirX)) = (lets x).map mirX := by
    rw [lets_join]
    have : ∀ l : List Str, (∀ y ∈ l, lets y = [y]) → l.flatMap lets = l := by
      intro l
      induction l with
      | nil => intro _; rfl
      | cons y l ih =>
        intro h
        show lets y ++ l.flatMap lets = y :: l
        rw [h y List.mem_cons_self, ih fun z hz => h z (List.mem_cons_of_mem _ hz)]
        rfl
    exact this _ fun y hy => (hok y hy).1
  refine ⟨"", p, (lets x).map mirX, rfl, rfl, .inl (.inl (.inl hxs)), ?_, ?_⟩
  · rw [hsum]
    have : (("" : Str)).length = 0 := by decide +kernel
    rw [this]
    omega
  · refine q _ H2 (fun y hy => ?_) ?_ e2
    · rw [hj] at hy
      exact (hok y hy).2
    · rw [← lets_len, hj, List.length_map, lets_len]
theorem ok__law_placed (T : Tx w K mg d) : FnOk P w K mg base CX0 3 (d.f 28) (d.fd 28) ["_law_pose_here", "_law_row"] (spPlaced K) := by
  have nd := sc__law_placed.nd
  refine T._law_placed.fn.ok sc__law_placed (fun vs H Q E h => ?_) (fun cdv A outer s H vs Q E hr h => ?_)
  · obtain ⟨_, _, _, _, _, h, _⟩ := h
    exact h.len
  obtain ⟨p, x, hx, hxl, hbd, ht, q⟩ := h
  obtain ⟨v1, v2, rfl, h1, h2⟩ := tks2 ht
  have h2 := tk_text.mp h2
  subst h2
  refine ⟨_, (pss_cons (ps_set (i := 2) nd rfl (.inl rfl) (pc T._law_led (ok__law_led T) (hr.mono (by decide)) (pa_cons (pv 0) (pa_cons (pv 1) pa_nil))))
      (pss_cons (ps_set (i := 3) nd rfl (.inl rfl) (pe_lst pa_nil))
      (pss_cons (ps_for PassesOwn.never rfl (pi_range1 (by rfl) T.range (pa_cons (pe_callB call_len_str (by rfl) T.len PySem.boot_len (pa_cons (pv 1) pa_nil)) pa_nil)) (pg_name (i := 4) nd rfl (.inl rfl)) (pss_one (ps_if (pt_cmpR op_eq (pe_ix ix_seq (pv 1) (pv 4) (fun _ _ => rfl)) pe_str (nomark _)) (pss_one (ps_expr (pe_bm PySem.F.plainAttrs_list PySem.F.slot_list_append PySem.F.type_list_append mt_append (pv 3) (pa_cons (pe_tup (pa_cons pe_str (pa_cons (pc T._law_back (ok__law_back T) (hr.mono (by decide)) (pa_cons (pe_ix ix_seq (pv 2) (pe_op op_add (pv 4) pe_int) (fun _ _ => rfl)) pa_nil)) pa_nil))) pa_nil)))) (pss_one (ps_expr (pe_bm PySem.F.plainAttrs_list PySem.F.slot_list_append PySem.F.type_list_append mt_append (pv 3) (pa_cons (pe_tup (pa_cons (pe_dget2 (hu_of hr) (pe_disp (pps_cons pe_str pe_str pps_nil) (by rfl) (by rfl) (fun z => by cases z) (by decide)) (pe_ix ix_seq (pv 1) (pv 4) (fun _ _ => rfl)) (pe_ix ix_seq (pv 1) (pv 4) (fun _ _ => rfl)) ⟨by rfl, by rfl, by rfl, by rfl⟩) (pa_cons (pe_ix ix_seq (pv 2) (pv 4) (fun _ _ => rfl)) pa_nil))) pa_nil)))))))
      (pss_one (ps_ret (pv 3)))))), ?_⟩
  refine a_setL (R := tx) (el_led (K := K) (p := p) (x := x) (by omega) (ed_key (n := 0) rfl h1) (ed_txt (n := 1) rfl)) fun r ys H1 hr1 e1 hy1 ty => ?_
  refine a_setL (R := tx) (el_lst (K := K) [] ea_nil (by decide)) fun l xs0 H2 hl e2 hx0 t0 => ?_
  have t0 := tks_nil.mp t0
  subst t0
  have hrl : r ≠ l := ne_of_none hy1 hl
  have hlT : (ledT p (lets x)).length = x.length + 1 := by rw [ledT_len, lets_len]
  have hbT := bd_led hbd (lets x).length (lets x) rfl
  rw [lets_len] at hbT
  refine a_forS (Re := tx) (R := tE l) (ei_rng1 (K := K) (n := (x.length : Int)) (ea_one (ed_lenX _ (fun _ _ _ h => h) (by omega) (ed_txt (n := 1) rfl))) ⟨by omega, by omega⟩) (fun _ e => (tE l).ex e)
    (fun i σ H => ∃ (y4 : Option V) (xs : List V) (ll : List Piece), σ = [some v1, some (.str x), some (.ref r), some (.ref l), y4] ∧ H l = some (.lst xs) ∧ Tks K H (ll.map pieceK) xs ∧ ll.length = i ∧ ∀ q ∈ ll, bdP 1000 q.2.p)
    (fun H3 e3 => ⟨none, [], [], rfl, e3 _ _ hx0, tks_nil.mpr rfl, rfl, fun q h => (nomatch h)⟩) (fun Hb eb i y σ' H' H3 hi e3 hP e4 hy => ?_) fun σ' H' e3 hP => ?_
  · obtain ⟨y4, xs, ll, rfl, hx1, ht1, hll, hb1⟩ := hP
    have hy := pN hy
    subst hy
    have hi : i < x.length := by omega
    obtain ⟨c, hc, hlet⟩ := let_at hi
    have hck := hx _ (List.mem_of_getElem? hlet)
    have eA : (tE l).r H2 H3 := (tE l).trans eb ((tE l).trans e3 ((tE l).ex e4))
    have hy3 : H3 r = some (.lst ys) := eA.1 _ _ hrl (e2 _ _ hy1)
    have ty3 : Tks K H3 ((ledT p (lets x)).map poseK) ys := (Tks.ex ty e2).to ((tE l).ts eA)
    have hrow : ∀ σ H4, σ[1]? = some (some (.str x)) → σ[4]? = some (some (.int (i : Nat))) → ED tx (tOp (rIx K) (tVar 1) (tVar 4)) σ H4 (dK tx K (.text ⟨#[c]⟩)) := fun σ H4 s1 s2 =>
      ed_ixX (w := x) (i := (i : Int)) (by omega) (at_nat.trans hc) (ed_txt s1) (ed_num s2)
    have hpo : ∀ (k : Nat) (tk : TE) σ H4, k < x.length + 1 → Ex H3 H4 → σ[2]? = some (some (.ref r)) → ED tx tk σ H4 (dK tx K (.num (k : Int))) → ED tx (tOp (rIx K) (tVar 2) tk) σ H4 (dK tx K (poseK ((ledT p (lets x)).getD k home))) := fun k tk σ H4 hk e5 s1 s2 =>
      ed_ixL (K := K) (ks := (ledT p (lets x)).map poseK) (by rw [at_nat, List.getElem?_map, get_lt (d := home) (by omega)]; rfl) (ed_lst s1 trivial (e5 _ _ hy3) (ty3.ex e5)) s2
    have hmem : ∀ k, k < x.length + 1 → bdP 1000 ((ledT p (lets x)).getD k home).p := fun k hk => bd_mono (hbT _ (List.mem_of_getElem? (get_lt (d := home) (by omega)))) (by omega)
    refine a_if (R := tx) (b := decide ((⟨#[c]⟩ : Str) = "R")) (et_v (ed_eqs (K := K) (hrow _ _ rfl rfl) ed_str)) (fun hb H4 e5 => ?_) (fun hb H4 e5 => ?_)
    · refine a_app (R := tx) (d := dK tx K (pieceK (.C, laid ((ledT p (lets x)).getD (i + 1) home) back0))) ((Ex.trans e4 e5) _ _ hx1) trivial (ed_ref (n := 3) rfl) (ed_tup [.text "C", poseK (laid ((ledT p (lets x)).getD (i + 1) home) back0)] (ea_cons ed_str (ea_one (ed_callK [poseK ((ledT p (lets x)).getD (i + 1) home)] ⟨(ledT p (lets x)).getD (i + 1) home, rfl, rfl⟩ (ea_one (hpo (i + 1) _ _ _ (by omega) e5 rfl (ed_succ (ed_num (n := 4) rfl) ed_int)))))) (by show 2 ≤ 100000; decide)) (by rw [ht1.len, List.length_map]; omega) fun v H5 e6 hv hl5 => ?_
      have ts : TSt H5 (upd H5 l (.lst (xs ++ [v]))) := (TSt.refl H5).lst hl5
      have eB := (Ex.trans e4 e5).trans e6
      refine ⟨tE_upd ((tE l).trans e3 ((tE l).ex eB)) hl5, _, xs ++ [v], ll ++ [(.C, laid ((ledT p (lets x)).getD (i + 1) home) back0)], rfl, upd_same, ?_, by rw [List.length_append, hll]; rfl, fun q hq => ?_⟩
      · rw [List.map_append]
        exact ((ht1.ex eB).to ts).snoc (Tk.to hv ts)
      · rcases List.mem_append.mp hq with hq | hq
        · exact hb1 q hq
        · rw [List.mem_singleton.mp hq]
          have h0 := hmem (i + 1) (by omega)
          have e9 : (laid ((ledT p (lets x)).getD (i + 1) home) back0).p = ((ledT p (lets x)).getD (i + 1) home).p := by
            show _ = _
            show P4.add _ (rot _ P4.nul) = _
            rw [rot_nul, add_nul]
          show bdP 1000 (laid ((ledT p (lets x)).getD (i + 1) home) back0).p
          rw [e9]
          exact h0
    · have hnR := of_decide_eq_false hb
      have hks := kdOf_str hck hnR
      refine a_app (R := tx) (d := dK tx K (pieceK (kdOf ⟨#[c]⟩, (ledT p (lets x)).getD i home))) ((Ex.trans e4 e5) _ _ hx1) trivial (ed_ref (n := 3) rfl) (ed_tup [.text (kdOf ⟨#[c]⟩).str, poseK ((ledT p (lets x)).getD i home)] (ea_cons ?_ (ea_one (hpo i _ _ _ (by omega) e5 rfl (ed_num (n := 4) rfl)))) (by show 2 ≤ 100000; decide)) (by rw [ht1.len, List.length_map]; omega) fun v H5 e6 hv hl5 => ?_
      · rw [← hks]
        exact ed_dispGet (K := K) (x := ⟨#[c]⟩) (y := ⟨#[c]⟩) [("L", "C")] (by decide +kernel) (by decide) (hrow _ _ rfl rfl) (hrow _ _ rfl rfl) fun _ _ => trivial
      · have ts : TSt H5 (upd H5 l (.lst (xs ++ [v]))) := (TSt.refl H5).lst hl5
        have eB := (Ex.trans e4 e5).trans e6
        refine ⟨tE_upd ((tE l).trans e3 ((tE l).ex eB)) hl5, _, xs ++ [v], ll ++ [(kdOf ⟨#[c]⟩, (ledT p (lets x)).getD i home)], rfl, upd_same, ?_, by rw [List.length_append, hll]; rfl, fun q hq => ?_⟩
        · rw [List.map_append]
          exact ((ht1.ex eB).to ts).snoc (Tk.to hv ts)
        · rcases List.mem_append.mp hq with hq | hq
          · exact hb1 q hq
          · rw [List.mem_singleton.mp hq]
            exact hmem i (by omega)
  · obtain ⟨y4, xs, ll, rfl, hx1, ht1, hll, hb1⟩ := hP
    have hll : ll.length = x.length := by rw [hll]; omega
    refine a_ret (R := tx) (ed_ref (n := 3) (l := l) rfl) fun v H4 e4 hv => ?_
    have hv : v = .ref l := hv
    subst hv
    exact q ll hll hb1 l xs H4 (fresh_back e1 hl) ((ex_of_tE (fresh_back e1 hl) (Ex.trans e1 e2) e3).trans e4) (e4 _ _ hx1) (ht1.ex e4)
end
end Mk
set_option Elab.async false
set_option linter.all false
set_option maxRecDepth 100000
set_option maxHeartbeats 400000
/-! the law's cell, digits, loop -/
namespace Mk
open PySem PySem.Spec PyProof.Rows L2 Evl
def spCell (K : PySem.W.Frag) : Sp := fun vs H Q _ => ∃ (ns : List Int) (k : Nat), DA [dL tx K (ns.map NestedKey.num), dK tx K (.num (k : Int))] H vs ∧ ∀ i H', Ex H H' → Q (.int i) H'
def spDigits (K : PySem.W.Frag) : Sp := fun vs H Q _ => ∃ ns : List Int, DA [dL tx K (ns.map NestedKey.num), dK tx K (.num 0), dK tx K (.num 60)] H vs ∧ ∀ (ms : List Int) r H', H r = none → Ex H H' → H' r = some (.lst (ms.map V.int)) → Q (.ref r) H'
section
variable {R : Tr} {K : PySem.W.Frag} {σ : L2.St} {H : Hp} {ta tb te : TE} {E : XK} {D : Ends} {tu tw tz : TS} {t : L2.TT} {p1 p2 p3 : Int → Prop}
theorem ed_opIv {g : Int → Int → V} (ha : ED R ta σ H (dI R p1)) (hb : ED R tb σ H (dI R p2)) (h : ∀ i j, ∃ k, g i j = .int k) : ED R (tOp (rI0 g) ta tb) σ H (dI R fun _ => True) :=
  ed_op ha hb fun x y H1 _ ⟨i, h1, ex⟩ ⟨j, h2, ey⟩ Q q => ⟨i, j, ex, ey, q _ H1 (R.refl H1) (let ⟨k, hk⟩ := h i j; ⟨k, trivial, hk⟩)⟩
/-- if t: x = e, x a number of its slot -/
theorem a_ifInt {i : Nat} {c c2 : Int} {b : Bool} (hσ : σ.set i (some (.int c)) = σ) (h : ET tx t σ H b) (h1 : ∀ H1, Ex H H1 → ED tx te σ H1 (dK tx K (.num c2))) (k : ∀ c' H1, Ex H H1 → tz D (σ.set i (some (.int c'))) H1) : tSeq (tIfS t (tAsg te (gName i)) tNext) tz D σ H :=
  a_ifS (R := tx) h (fun _ H1 e1 => a_last (R := tx) (D := { D with nx := tz D }) (h1 H1 e1) fun v H2 e2 hv => by
    have hv := pN hv
    subst hv
    exact k c2 H2 (Ex.trans e1 e2)) fun _ H1 e1 => by
    have := k c H1 e1
    rw [hσ] at this
    exact this
/-- a test of which nothing is told -/
def ETU (R : Tr) (t : L2.TT) (σ : L2.St) (H : Hp) : Prop := ∀ H1, R.r H H1 → ∀ Q : Bool → Hp → Prop, (∀ b H2, R.r H1 H2 → Q b H2) → t σ H1 Q
theorem et_eqU (ha : ED R ta σ H (dI R p1)) (hb : ED R tb σ H (dI R p2)) : ETU R (tTest (tOp rEq ta tb)) σ H := fun H1 e Q q =>
  ha H1 e _ fun x H2 e2 ⟨i, h1, ex⟩ => hb H2 (R.trans e e2) _ fun y H3 e3 ⟨j, h2, ey⟩ => by
    subst ex ey
    exact ⟨rfl, _, rfl, q _ H3 (R.trans e2 e3)⟩
theorem a_ifU (h : ETU R t σ H) (h1 : ∀ H1, R.r H H1 → tu D σ H1) (h2 : ∀ H1, R.r H H1 → tw D σ H1) : tIfS t tu tw D σ H := h H (R.refl H) _ fun b H1 e => by
  cases b with
  | true => exact h1 H1 e
  | false => exact h2 H1 e
theorem ei_any {wi : TI} {n : Nat} {ds : Nat → Ds R} {Re : Tr} (h : EI Re R wi σ H n ds) : EI Re R wi σ H n ds := h
end
section
variable {P : Program} {w : World} {K : PySem.W.Frag} {mg : Str → Option Value} {base : Heap} {d : Da}
theorem ok__law_cell (T : Tx w K mg d) : FnOk P w K mg base CX0 1 (d.f 12) (d.fd 12) ["_law_script", "_law_k"] (spCell K) := by
  have nd := sc__law_cell.nd
  refine T._law_cell.fn.ok sc__law_cell (fun vs H Q E h => ?_) (fun cdv A outer s H vs Q E hr h => ?_)
  · obtain ⟨_, _, h, _⟩ := h
    exact h.len
  obtain ⟨ns, k, ht, q⟩ := h
  obtain ⟨v1, v2, rfl, h1, h2⟩ := da2 ht
  have h2 := pN h2
  subst h2
  refine ⟨_, (pss_cons (ps_if (pt_cmpR op_lt (pv 1) (pe_callB call_len_seq (by rfl) T.len PySem.boot_len (pa_cons (pv 0) pa_nil)) (nomark _)) (pss_one (ps_ret (pe_ix ix_seq (pv 0) (pv 1) (fun _ _ => rfl)))) pss_nil)
      (pss_one (ps_ret pe_int))), ?_⟩
  refine a_ifS (R := tx) (et_v (ed_I0b (K := K) (i := (k : Int)) (j := ((ns.map NestedKey.num).length : Int)) (ed_num (n := 1) rfl) (ed_len _ (fun _ _ _ h => h) (ED.s_of_l (ed_v (v := v1) (d := dL tx K (ns.map NestedKey.num)) rfl h1))))) (fun hb H4 e4 => ?_) (fun hb H4 e4 => ?_)
  · have hlt : k < ns.length := by have := of_decide_eq_true hb; rw [List.length_map] at this; omega
    refine a_ret (R := tx) (ed_ixL (K := K) (ks := ns.map NestedKey.num) (k := .num (ns.getD k 0)) (by rw [at_nat, List.getElem?_map, get_lt (d := 0) hlt]; rfl) (ed_v (v := v1) (d := dL tx K (ns.map NestedKey.num)) rfl ((dL tx K (ns.map NestedKey.num)).mono e4 h1)) (ed_num (n := 1) rfl)) fun v H5 e5 hv => ?_
    have hv := pN hv
    subst hv
    exact q _ H5 (Ex.trans e4 e5)
  · refine a_ret (R := tx) (D := { nx := fun _ H' => Q .non H', rt := Q }) (σ := start ["_law_script", "_law_k"] [v1, .int (k : Int)]) (H := H4) (ed_int (K := K) (i := 0)) fun v H5 e5 hv => ?_
    have hv := pN hv
    subst hv
    exact q _ H5 (Ex.trans e4 e5)
theorem ok__law_digits (T : Tx w K mg d) : FnOk P w K mg base CX0 2 (d.f 14) (d.fd 14) ["_law_script", "_law_first", "_law_last"] (spDigits K) := by
  have nd := sc__law_digits.nd
  refine T._law_digits.fn.ok sc__law_digits (fun vs H Q E h => ?_) (fun cdv A outer s H vs Q E hr h => ?_)
  · obtain ⟨_, h, _⟩ := h
    exact h.len
  obtain ⟨ns, ht, q⟩ := h
  obtain ⟨v1, v2, v3, rfl, h1, h2, h3⟩ := da3 ht
  have h2 := pN h2
  have h3 := pN h3
  subst h2 h3
  refine ⟨_, (pss_cons (ps_set (i := 3) nd rfl (.inl rfl) (pe_lst pa_nil))
      (pss_cons (ps_for PassesOwn.never rfl (pi_range2 (by rfl) T.range (pa_cons (pv 1) (pa_cons (pv 2) pa_nil))) (pg_name (i := 4) nd rfl (.inl rfl)) (pss_cons (ps_set (i := 5) nd rfl (.inl rfl) (pc T._law_cell (ok__law_cell T) (hr.mono (by decide)) (pa_cons (pv 0) (pa_cons (pv 4) pa_nil))))
      (pss_cons (ps_if (pt_cmpR op_lt (pv 5) pe_int (nomark _)) (pss_one (ps_set (i := 5) nd rfl (.inl rfl) (pe_op op_sub pe_int (pe_op op_mul pe_int (pv 5))))) pss_nil)
      (pss_one (ps_if (pt_cmpR op_ge (pv 5) (pe_op op_pow pe_int pe_int) (nomark _)) (pss_one (ps_for PassesOwn.never rfl (pi_range1 (by rfl) T.range (pa_cons pe_int pa_nil)) (pg_name (i := 6) nd rfl (.inl rfl)) (pss_one (ps_if (pt_cmpR op_gt (pv 5) pe_int (nomark _)) (pss_cons (ps_expr (pe_bm PySem.F.plainAttrs_list PySem.F.slot_list_append PySem.F.type_list_append mt_append (pv 3) (pa_cons (pe_op op_mod (pe_callTy call_int1 (by rfl) T.int PyProof.Rows.boot_int (pa_cons (pv 5) pa_nil)) pe_int) pa_nil)))
      (pss_one (ps_set (i := 5) nd rfl (.inl rfl) (pe_op op_fdiv (pv 5) pe_int)))) pss_nil)))) (pss_cons (ps_set (i := 7) nd rfl (.inl rfl) (pe_op op_mod (pe_callTy call_int1 (by rfl) T.int PyProof.Rows.boot_int (pa_cons (pe_op op_add (pe_op op_add (pe_op op_mul (pv 5) pe_int) (pe_op op_mul (pv 4) pe_int)) pe_int) pa_nil)) pe_int))
      (pss_one (ps_for PassesOwn.never rfl (pi_range1 (by rfl) T.range (pa_cons pe_int pa_nil)) (pg_name (i := 6) nd rfl (.inl rfl)) (pss_cons (ps_set (i := 7) nd rfl (.inl rfl) (pe_op op_mod (pe_callTy call_int1 (by rfl) T.int PyProof.Rows.boot_int (pa_cons (pe_op op_add (pe_op op_add (pe_op op_mul (pv 7) pe_int) (pe_op op_mul pe_int (pv 6))) pe_int) pa_nil)) pe_int))
      (pss_one (ps_expr (pe_bm PySem.F.plainAttrs_list PySem.F.slot_list_append PySem.F.type_list_append mt_append (pv 3) (pa_cons (pe_op op_mod (pe_callTy call_int1 (by rfl) T.int PyProof.Rows.boot_int (pa_cons (pe_op op_fdiv (pv 7) pe_int) pa_nil)) pe_int) pa_nil)))))))))))))
      (pss_one (ps_ret (pv 3))))), ?_⟩
  refine a_setL (R := tx) (el_lst (K := K) [] ea_nil (by decide)) fun l xs0 H1 hl e1 hx0 t0 => ?_
  have t0 := tks_nil.mp t0
  subst t0
  refine a_forS (Re := tx) (R := tE l) (ei_rng2 (K := K) (lo := 0) (n := 60) (ea_cons (ed_num (n := 1) rfl) (ea_one (ed_num (n := 2) rfl))) (by decide) (by decide)) (fun _ e => (tE l).ex e)
    (fun i σ H => ∃ (ms : List Int) (y4 y5 y6 y7 : Option V), σ = [some v1, some (.int 0), some (.int 60), some (.ref l), y4, y5, y6, y7] ∧ H l = some (.lst (ms.map V.int)) ∧ ms.length ≤ 60 * i)
    (fun H2 e2 => ⟨[], none, none, none, none, rfl, e2 _ _ hx0, Nat.zero_le _⟩) (fun Hb eb i y σ' H' H2 hi e2 hP e3 hy => ?_) fun σ' H' e2 hP => ?_
  · obtain ⟨ms, y4, y5, y6, y7, rfl, hx1, hml⟩ := hP
    have hy := pN hy
    have hy : y = .int ((i : Nat) : Int) := by rw [hy]; congr 1; omega
    subst hy
    have hi : i < 60 := hi
    show tSeq _ _ _ [some v1, some (.int 0), some (.int 60), some (.ref l), some (.int (i : Nat)), y5, y6, y7] H2
    have eH2 : Ex H H2 := (ex_of_tE hl e1 ((tE l).trans eb e2)).trans e3
    -- cell
    refine a_set (R := tx) (d := dI tx fun _ => True) (ed_call (ds := [dL tx K (ns.map NestedKey.num), dK tx K (.num ((i : Nat) : Int))]) (ea_cons (ed_v (v := v1) rfl ((dL tx K (ns.map NestedKey.num)).mono eH2 h1)) (ea_one (ed_num (n := 4) rfl))) fun vs H3 e4 p Q1 k1 => ⟨ns, i, p, fun j H4 e5 => k1 _ H4 e5 ⟨j, trivial, rfl⟩⟩) fun v H3 e4 hv => ?_
    obtain ⟨c, _, rfl⟩ := hv
    refine a_ifInt (K := K) (c := c) (c2 := 1 - 2 * c) rfl (et_v (ed_I0b (K := K) (i := c) (j := 0) (ed_num (n := 5) rfl) ed_int)) (fun H4 e5 => ed_sub ed_int (ed_mul (.inl ⟨by decide, by decide⟩) ed_int (ed_num (n := 5) rfl))) fun c' H4 e5 => ?_
    have eA := (Ex.trans e3 e4).trans e5
    -- the two ways
    have hfin : ∀ {σ' : L2.St} {H' : Hp} {ms : List Int}, (tE l).r H4 H' → (∃ y4 y5 y6 y7 : Option V, σ' = [some v1, some (.int 0), some (.int 60), some (.ref l), y4, y5, y6, y7]) → H' l = some (.lst (ms.map V.int)) → ms.length ≤ 60 * (i + 1) →
        (tE l).r Hb H' ∧ ∃ (ms : List Int) (y4 y5 y6 y7 : Option V), σ' = [some v1, some (.int 0), some (.int 60), some (.ref l), y4, y5, y6, y7] ∧ H' l = some (.lst (ms.map V.int)) ∧ ms.length ≤ 60 * (i + 1) := fun {σ' H' ms} r hs hx hm => by
      obtain ⟨z4, z5, z6, z7, hs⟩ := hs
      exact ⟨(tE l).trans e2 ((tE l).trans ((tE l).ex eA) r), ms, z4, z5, z6, z7, hs, hx, hm⟩
    refine a_if (R := tx) (et_v (ed_I0b (K := K) (i := c') (j := 10 ^ 18) (ed_num (n := 5) rfl) (ed_I (C := CPow) (g := fun i j => .int (i ^ j.toNat)) (i := 10) (j := 18) ⟨by decide, by decide, by decide⟩ (tkn _) ed_int ed_int))) (fun hb H5 e6 => ?_) (fun hb H5 e6 => ?_)
    · refine a_for (Re := tx) (R := tE l) (ei_rng1 (K := K) (n := 60) (ea_one ed_int) (by decide)) (fun _ e => (tE l).ex e)
        (fun k σ H => ∃ (ms : List Int) (c : Int) (y6 y7 : Option V), σ = [some v1, some (.int 0), some (.int 60), some (.ref l), some (.int (i : Nat)), some (.int c), y6, y7] ∧ H l = some (.lst (ms.map V.int)) ∧ ms.length ≤ 60 * i + k)
        (fun H6 e7 => ⟨ms, c', y6, y7, rfl, ((Ex.trans eA e6).trans e7) _ _ hx1, by omega⟩) (fun Hc ec k z σ' H6 H7 hk e7 hP e8 hz => ?_) fun σ' H6 e7 hP => ?_
      · obtain ⟨ms, c, y6, y7, rfl, hx2, hm2⟩ := hP
        have hk : k < 60 := hk
        refine a_if (R := tx) (et_v (ed_I0b (K := K) (i := c) (j := 0) (ed_num (n := 5) rfl) ed_int)) (fun hb H8 e9 => ?_) (fun hb H8 e9 => ?_)
        · refine a_app (R := tx) (D := { nx := _, rt := _, bk := _, ct := _ }) (d := dK tx K (.num (c % 1000))) ((Ex.trans e8 e9) _ _ hx2) trivial (ed_ref (n := 3) rfl) (ed_mod (by decide) (ed_int1 _ (fun _ _ _ h => h) (ed_num (n := 5) rfl)) ed_int) (by rw [List.length_map]; omega) fun v H9 e10 hv hl9 => ?_
          have hv := pN hv
          subst hv
          refine a_last (R := tx) (ed_fdiv (K := K) (i := c) (j := 1000) ⟨by decide, by decide⟩ (ed_num (n := 5) rfl) ed_int) fun v H10 e11 hv => ?_
          have hv := pN hv
          subst hv
          refine ⟨(tE l).trans e7 ((tE l).trans (tE_upd ((tE l).ex ((Ex.trans e8 e9).trans e10)) hl9) ((tE l).ex e11)), ms ++ [c % 1000], _, _, _, rfl, ?_, by rw [List.length_append, List.length_singleton]; omega⟩
          rw [List.map_append]
          exact e11 _ _ upd_same
        · exact ⟨(tE l).trans e7 ((tE l).ex (Ex.trans e8 e9)), ms, c, _, _, rfl, (Ex.trans e8 e9) _ _ hx2, by omega⟩
      · obtain ⟨ms, c, y6, y7, rfl, hx2, hm2⟩ := hP
        have hm2 : ms.length ≤ 60 * i + 60 := hm2
        exact hfin ((tE l).trans ((tE l).ex e6) e7) ⟨_, _, _, _, rfl⟩ hx2 (by omega)
    · refine a_set (R := tx) (ed_mod (K := K) (i := c' * 48271 + (i : Nat) * 69621 + 11) (j := 2147483647) (by decide) (ed_int1 _ (fun _ _ _ h => h) (ed_add (ed_add (ed_mul (.inr ⟨by decide, by decide⟩) (ed_num (n := 5) rfl) ed_int) (ed_mul (.inr ⟨by decide, by decide⟩) (ed_num (n := 4) rfl) ed_int)) ed_int)) ed_int) fun v H6 e7 hv => ?_
      have hv := pN hv
      subst hv
      generalize (c' * 48271 + ((i : Nat) : Int) * 69621 + 11) % 2147483647 = s0
      refine a_for (Re := tx) (R := tE l) (ei_rng1 (K := K) (n := 12) (ea_one ed_int) (by decide)) (fun _ e => (tE l).ex e)
        (fun k σ H => ∃ (ms : List Int) (s : Int) (y5 y6 : Option V), σ = [some v1, some (.int 0), some (.int 60), some (.ref l), some (.int (i : Nat)), y5, y6, some (.int s)] ∧ H l = some (.lst (ms.map V.int)) ∧ ms.length ≤ 60 * i + k)
        (fun H7 e8 => ⟨ms, s0, _, y6, rfl, (((Ex.trans eA e6).trans e7).trans e8) _ _ hx1, by omega⟩) (fun Hc ec k z σ' H7 H8 hk e8 hP e9 hz => ?_) fun σ' H7 e8 hP => ?_
      · obtain ⟨ms, s, y5, y6, rfl, hx2, hm2⟩ := hP
        have hz := pN hz
        subst hz
        have hk : k < 12 := hk
        refine a_set (R := tx) (ed_mod (K := K) (i := s * 16807 + 7 * (k : Nat) + 1) (j := 2147483647) (by decide) (ed_int1 _ (fun _ _ _ h => h) (ed_add (ed_add (ed_mul (.inr ⟨by decide, by decide⟩) (ed_num (n := 7) rfl) ed_int) (ed_mul (.inl ⟨by decide, by decide⟩) ed_int (ed_num (n := 6) rfl))) ed_int)) ed_int) fun v H9 e10 hv => ?_
        have hv := pN hv
        subst hv
        generalize (s * 16807 + 7 * ((k : Nat) : Int) + 1) % 2147483647 = s1
        refine a_app (R := tx) (d := dK tx K (.num (s1 / 997 % 1000))) ((Ex.trans e9 e10) _ _ hx2) trivial (ed_ref (n := 3) rfl) (ed_mod (by decide) (ed_int1 _ (fun _ _ _ h => h) (ed_fdiv ⟨by decide, by decide⟩ (ed_num (n := 7) rfl) ed_int)) ed_int) (by rw [List.length_map]; omega) fun v H10 e11 hv hl10 => ?_
        have hv := pN hv
        subst hv
        refine ⟨(tE l).trans e8 (tE_upd ((tE l).ex ((Ex.trans e9 e10).trans e11)) hl10), ms ++ [s1 / 997 % 1000], _, _, _, rfl, ?_, by rw [List.length_append, List.length_singleton]; omega⟩
        rw [List.map_append]
        exact upd_same
      · obtain ⟨ms, s, y5, y6, rfl, hx2, hm2⟩ := hP
        have hm2 : ms.length ≤ 60 * i + 12 := hm2
        exact hfin ((tE l).trans ((tE l).ex (Ex.trans e6 e7)) e8) ⟨_, _, _, _, rfl⟩ hx2 (by omega)
  · obtain ⟨ms, y4, y5, y6, y7, rfl, hx1, hml⟩ := hP
    refine a_ret (R := tx) (ed_ref (n := 3) (l := l) rfl) fun v H4 e4 hv => ?_
    have hv : v = .ref l := hv
    subst hv
    exact q ms l H4 hl ((ex_of_tE hl e1 e2).trans e4) (e4 _ _ hx1)
end
end Mk
set_option Elab.async false
set_option linter.all false
set_option maxRecDepth 100000
set_option maxHeartbeats 400000
/-! the law's loop -/
namespace Mk
open PySem PySem.Spec PyProof.Rows L2 Evl
instance (w : Str) : Decidable (Okw w) := by
  unfold Okw
  exact inferInstance
def spLoop (K : PySem.W.Frag) : Sp := fun vs H Q _ => ∃ (b dg : Addr) (ns : List Int), vs = [.ref b] ∧ Bx b dg ns H ∧ ∀ (w : Str) H', Okw w → w.length ≤ 50 → (tB b dg ns).r H H' → Q (.str w) H'
section
variable {R : Tr} {K : PySem.W.Frag} {σ : L2.St} {H : Hp} {ta tb te : TE} {E : XK} {D : Ends} {tu tw tz tI : TS} {t : L2.TT}
theorem bx_ok {b dg : Addr} {ns : List Int} (hb : Bx b dg ns H) : ∀ p, H p = none → (tB b dg ns).ok p := fun p hp z => by
  obtain ⟨n, _, h⟩ := hb.at_
  rw [z, h] at hp
  cases hp
/-- new texts, one drawn -/
theorem ed_textDraw {b dg : Addr} {ns : List Int} {n m : Nat} {many : Int} {tas : TA} (ts : List Str) (hts : ∀ t ∈ ts, Okw t ∧ t.length ≤ m) (hm : many = ts.length) (hs : σ[n]? = some (some (.ref b))) (h0 : 0 < many) (hl : ts.length ≤ 1000) (hb : Bx b dg ns H)
    (ha : EA (tB b dg ns) tas σ H ((ts.map NestedKey.text).map (dK (tB b dg ns) K))) : ED (tB b dg ns) (tOp (rIx K) (tLst tas) (tCall (spDraw K) [] E (tCons (tVar n) (tCons (tC (.int many)) tNil)))) σ H (dX (tB b dg ns) 0 m) := fun H1 e Q q =>
  el_lst (ts.map NestedKey.text) ha (by rw [List.length_map]; omega) H1 e _ fun p xs H2 hp e2 hx ht => by
    have b2 := (tB b dg ns).trans e e2
    have hb2 := b2.2 hb
    refine ed_draw (H := H2) hs h0 hb2 H2 ((tB b dg ns).refl H2) _ fun v H3 e3 ⟨i, hi, ev⟩ => ?_
    subst ev
    have okp := bx_ok (e.2 hb) p hp
    have exs := tp_cons.texts_of ht
    have hlen : i.toNat < ts.length := by have := hi.1; have := hi.2; omega
    have en : i = ((i.toNat : Nat) : Int) := by have := hi.1; omega
    subst exs
    refine .inl ⟨p, ts.map V.str, i, .str (ts.getD i.toNat ""), rfl, rfl, .inl (.inl ((tB b dg ns).keep e3 okp hx)), ?_, q _ H3 ((tB b dg ns).trans e2 e3) ?_⟩
    · refine (congrArg (atI _) en).trans (at_nat.trans ?_)
      rw [List.getElem?_map, get_lt (d := ("" : Str)) hlen]
      rfl
    · have hmem := List.mem_of_getElem? (get_lt (d := ("" : Str)) hlen)
      exact ⟨_, (hts _ hmem).1, Nat.zero_le _, (hts _ hmem).2, rfl⟩
theorem a_ifK {i : Nat} {Pw : Str → Prop} (fin : ∀ w H', Pw w → R.r H H' → tz D (σ.set i (some (.str w))) H') (h : ∀ D', (∀ w H', Pw w → R.r H H' → D'.nx (σ.set i (some (.str w))) H') → tI D' σ H) : tSeq tI tz D σ H := h _ fin
theorem ed_strX {x : Str} {a b : Nat} (h : Okw x) (h1 : a ≤ x.length) (h2 : x.length ≤ b) : ED R (tC (.str x)) σ H (dX R a b) := ed_c (d := dX R a b) ⟨x, h, h1, h2, rfl⟩
theorem ed_varX {x : Str} {n a b : Nat} (hs : σ[n]? = some (some (.str x))) (h : Okw x) (h1 : a ≤ x.length) (h2 : x.length ≤ b) : ED R (tVar n) σ H (dX R a b) := ed_v (d := dX R a b) hs ⟨x, h, h1, h2, rfl⟩
theorem ed_mirror {a b : Nat} (hb : b ≤ 1000) (h : ED R te σ H (dX R a b)) : ED R (tCall (spMirror K) [] E (tCons te tNil)) σ H (dX R 0 b) :=
  ed_call (ea_one h) fun vs H1 _ p Q q => by
    obtain ⟨v, rfl, w, h1, h2, h3, rfl⟩ := da1 p
    exact ⟨w, rfl, h1, by omega, fun w' H' g1 g2 e => q _ H' (R.ex e) ⟨w', g1, Nat.zero_le _, by omega, rfl⟩⟩
end
section
variable {P : Program} {w : World} {K : PySem.W.Frag} {mg : Str → Option Value} {base : Heap} {d : Da}
theorem ok__law_loop (T : Tx w K mg d) : FnOk P w K mg base CX0 2 (d.f 24) (d.fd 24) ["_law_box"] (spLoop K) := by
  have nd := sc__law_loop.nd
  refine T._law_loop.fn.ok sc__law_loop (fun vs H Q E h => ?_) (fun cdv A outer s H vs Q E hr h => ?_)
  · obtain ⟨_, _, _, rfl, _⟩ := h
    rfl
  obtain ⟨b, dg, ns, rfl, hb, q⟩ := h
  refine ⟨_, (pss_cons (ps_set (i := 1) nd rfl (.inl rfl) (pc T._law_draw (ok__law_draw T) (hr.mono (by decide)) (pa_cons (pv 0) (pa_cons pe_int pa_nil))))
      (pss_cons (ps_set (i := 2) nd rfl (.inl rfl) (pe_ix ix_seq (pe_lst (pa_cons pe_str (pa_cons pe_str (pa_cons pe_str (pa_cons pe_str (pa_cons pe_str (pa_cons pe_str (pa_cons pe_str (pa_cons pe_str (pa_cons pe_str pa_nil)))))))))) (pc T._law_draw (ok__law_draw T) (hr.mono (by decide)) (pa_cons (pv 0) (pa_cons pe_int pa_nil))) (fun _ _ => rfl)))
      (pss_cons (ps_set (i := 3) nd rfl (.inl rfl) (pe_ix ix_seq (pe_lst (pa_cons pe_str (pa_cons pe_str (pa_cons pe_str (pa_cons pe_str (pa_cons pe_str (pa_cons pe_str pa_nil))))))) (pc T._law_draw (ok__law_draw T) (hr.mono (by decide)) (pa_cons (pv 0) (pa_cons pe_int pa_nil))) (fun _ _ => rfl)))
      (pss_cons (ps_if (pt_cmpR op_lt (pv 1) pe_int (nomark _)) (pss_one (ps_set (i := 5) nd rfl (.inl rfl) (pe_op op_add_str (pe_op op_add_str (pe_op op_add_str pe_str (pv 2)) pe_str) (pv 2)))) (pss_one (ps_if (pt_cmpR op_eq (pv 1) pe_int (nomark _)) (pss_one (ps_set (i := 5) nd rfl (.inl rfl) (pe_op op_add_str (pe_op op_add_str (pe_op op_add_str (pe_op op_add_str (pe_op op_add_str (pe_op op_add_str (pe_op op_add_str pe_str (pv 2)) pe_str) (pv 3)) pe_str) (pv 2)) pe_str) (pv 3)))) (pss_one (ps_if (pt_cmpR op_eq (pv 1) pe_int (nomark _)) (pss_one (ps_set (i := 5) nd rfl (.inl rfl) pe_str)) (pss_one (ps_set (i := 5) nd rfl (.inl rfl) pe_str)))))))
      (pss_cons (ps_set (i := 4) nd rfl (.inl rfl) (pe_op op_mod (pe_callTy call_int1 (by rfl) T.int PyProof.Rows.boot_int (pa_cons (pc T._law_draw (ok__law_draw T) (hr.mono (by decide)) (pa_cons (pv 0) (pa_cons pe_int pa_nil))) pa_nil)) (pe_callB call_len_str (by rfl) T.len PySem.boot_len (pa_cons (pv 5) pa_nil))))
      (pss_cons (ps_set (i := 5) nd rfl (.inl rfl) (pe_op op_add_str (pe_slice sl_str (pv 5) (po_some (pv 4)) po_none) (pe_slice sl_str (pv 5) po_none (po_some (pv 4)))))
      (pss_cons (ps_if (pt_cmpR op_eq (pc T._law_draw (ok__law_draw T) (hr.mono (by decide)) (pa_cons (pv 0) (pa_cons pe_int pa_nil))) pe_int (nomark _)) (pss_one (ps_set (i := 5) nd rfl (.inl rfl) (pc T._law_mirror (ok__law_mirror T) (hr.mono (by decide)) (pa_cons (pv 5) pa_nil)))) pss_nil)
      (pss_cons (ps_if (pt_cmpR op_eq (pc T._law_draw (ok__law_draw T) (hr.mono (by decide)) (pa_cons (pv 0) (pa_cons pe_int pa_nil))) pe_int (nomark _)) (pss_one (ps_set (i := 5) nd rfl (.inl rfl) (pc T._law_mirror (ok__law_mirror T) (hr.mono (by decide)) (pa_cons (pe_revS (pv 5)) pa_nil)))) pss_nil)
      (pss_one (ps_ret (pv 5))))))))))), ?_⟩
  -- kind
  refine a_setB (ed_draw (ns := ns) rfl (by decide) hb) fun v H1 r1 ⟨kd, hk, ev⟩ => ?_
  subst ev
  have hb1 := r1.2 hb
  -- first
  refine a_setB (ed_textDraw (K := K) (ns := ns) (dg := dg) (b := b) (m := 3) ["", "S", "H", "SS", "LR", "RL", "SH", "LRS", "HH"] (by decide +kernel) rfl rfl (by decide) (by decide) hb1 (ea_cons ed_str (ea_cons ed_str (ea_cons ed_str (ea_cons ed_str (ea_cons ed_str (ea_cons ed_str (ea_cons ed_str (ea_cons ed_str (ea_one ed_str)))))))))) fun v H2 r2 ⟨f1, hf1, _, hf2, ev⟩ => ?_
  subst ev
  have hb2 := r2.2 hb1
  -- second
  refine a_setB (ed_textDraw (K := K) (ns := ns) (dg := dg) (b := b) (m := 2) ["", "S", "H", "SS", "RL", "LR"] (by decide +kernel) rfl rfl (by decide) (by decide) hb2 (ea_cons ed_str (ea_cons ed_str (ea_cons ed_str (ea_cons ed_str (ea_cons ed_str (ea_one ed_str))))))) fun v H3 r3 ⟨s1, hs1, _, hs2, ev⟩ => ?_
  subst ev
  have hb3 := r3.2 hb2
  have r13 := (tB b dg ns).trans ((tB b dg ns).trans r1 r2) r3
  show tSeq _ _ _ [some (.ref b), some (.int kd), some (.str f1), some (.str s1), none, none] H3
  -- row
  refine a_ifK (R := tB b dg ns) (i := 5) (Pw := fun w => Okw w ∧ 8 ≤ w.length ∧ w.length ≤ 18) (fun x H4 ⟨hx1, hx2, hx3⟩ r4 => ?_) (fun D' fin => ?_)
  · have hb4 := r4.2 hb3
    show tSeq _ _ _ [some (.ref b), some (.int kd), some (.str f1), some (.str s1), none, some (.str x)] H4
    -- at
    refine a_setB (tr := tB b dg ns) (d := dI (tB b dg ns) fun _ => True) (ed_opIc (p1 := fun i => 0 ≤ i ∧ i < 90) (p2 := fun j => ((8 : Nat) : Int) ≤ j ∧ j ≤ (18 : Nat)) (ed_intI _ (fun _ _ _ h => h) (ed_draw (ns := ns) (dg := dg) rfl (by decide) hb4)) (ed_lenW (a := 8) (b := 18) _ (fun _ _ _ h => h) (by decide) (ed_varX (n := 5) rfl hx1 hx2 hx3)) fun i j h1 h2 => ⟨by omega, trivial⟩) fun v H5 r5 ⟨at_, _, ev⟩ => ?_
    subst ev
    have hb5 := r5.2 hb4
    -- row = row[at:] + row[:at]
    have hpt : ∀ H6, EO (tB b dg ns) (tPart (tVar 4)) [some (.ref b), some (.int kd), some (.str f1), some (.str s1), some (.int at_), some (.str x)] H6 (some at_) := fun H6 => eo_some (K := K) (ed_num rfl)
    refine a_setB (tr := tB b dg ns) (ed_addX (a := 0) (b := 18) (c := 0) (d := 18) (by decide) (ed_slX (a := 8) (by decide) (ed_varX (n := 5) rfl hx1 hx2 hx3) (fun H6 _ => hpt H6) (fun _ _ => eo_none)) (ed_slX (a := 8) (by decide) (ed_varX (n := 5) rfl hx1 hx2 hx3) (fun _ _ => eo_none) (fun H6 _ => hpt H6))) fun v H6 r6 ⟨y, hy1, _, hy2, ev⟩ => ?_
    subst ev
    have hb6 := r6.2 hb5
    show tSeq _ _ _ [some (.ref b), some (.int kd), some (.str f1), some (.str s1), some (.int at_), some (.str y)] H6
    refine a_ifK (R := tB b dg ns) (i := 5) (Pw := fun w => Okw w ∧ w.length ≤ 36) (fun z H7 ⟨hz1, hz2⟩ r7 => ?_) (fun D' fin => ?_)
    · have hb7 := r7.2 hb6
      show tSeq _ _ _ [some (.ref b), some (.int kd), some (.str f1), some (.str s1), some (.int at_), some (.str z)] H7
      refine a_ifK (R := tB b dg ns) (i := 5) (Pw := fun w => Okw w ∧ w.length ≤ 36) (fun u H8 ⟨hu1, hu2⟩ r8 => ?_) (fun D' fin => ?_)
      · refine a_ret (R := tx) (ed_txt (K := K) (n := 5) (i := u) rfl) fun v H9 e9 hv => ?_
        have hv := pX hv
        subst hv
        exact q u H9 hu1 (by omega) ((tB b dg ns).trans r13 ((tB b dg ns).trans r4 ((tB b dg ns).trans r5 ((tB b dg ns).trans r6 ((tB b dg ns).trans r7 ((tB b dg ns).trans r8 ((tB b dg ns).ex e9)))))))
      · refine a_ifU (et_eqU (ed_draw (ns := ns) (dg := dg) rfl (by decide) hb7) ((ed_int (K := K)).toI (p1 := fun _ => True) trivial)) (fun H8 r8 => ?_) (fun H8 r8 => ?_)
        · refine a_last (R := tB b dg ns) (ed_mirror (K := K) (a := 0) (b := 36) (by decide) (ed_revX (a := 0) (by decide) (ed_varX (n := 5) rfl hz1 (Nat.zero_le _) hz2))) fun v H9 r9 ⟨u, hu1, _, hu2, ev⟩ => ?_
          subst ev
          exact fin u H9 ⟨hu1, hu2⟩ ((tB b dg ns).trans r8 r9)
        · exact fin z H8 ⟨hz1, hz2⟩ r8
    · refine a_ifU (et_eqU (ed_draw (ns := ns) (dg := dg) rfl (by decide) hb6) ((ed_int (K := K)).toI (p1 := fun _ => True) trivial)) (fun H7 r7 => ?_) (fun H7 r7 => ?_)
      · refine a_last (R := tB b dg ns) (ed_mirror (K := K) (a := 0) (b := 36) (by decide) (ed_varX (n := 5) rfl hy1 (Nat.zero_le _) hy2)) fun v H8 r8 ⟨u, hu1, _, hu2, ev⟩ => ?_
        subst ev
        exact fin u H8 ⟨hu1, hu2⟩ ((tB b dg ns).trans r7 r8)
      · exact fin y H7 ⟨hy1, hy2⟩ r7
  · have vf : ∀ {H4}, ED (tB b dg ns) (tVar 2) [some (.ref b), some (.int kd), some (.str f1), some (.str s1), none, none] H4 (dX (tB b dg ns) 0 3) := fun {H4} => ed_varX (n := 2) rfl hf1 (Nat.zero_le _) hf2
    have vs : ∀ {H4}, ED (tB b dg ns) (tVar 3) [some (.ref b), some (.int kd), some (.str f1), some (.str s1), none, none] H4 (dX (tB b dg ns) 0 2) := fun {H4} => ed_varX (n := 3) rfl hs1 (Nat.zero_le _) hs2
    refine a_if (R := tB b dg ns) (et_v (ed_I0b (K := K) (i := kd) (j := 2) (ed_num (n := 1) rfl) ed_int)) (fun _ H4 r4 => ?_) (fun _ H4 r4 => ?_)
    · refine a_last (R := tB b dg ns) (ed_addX (a := 8) (b := 11) (c := 0) (d := 3) (by decide) (ed_addX (a := 4) (b := 7) (c := 4) (d := 4) (by decide) (ed_addX (a := 4) (b := 4) (c := 0) (d := 3) (by decide) (ed_strX (by decide +kernel) (by decide +kernel) (by decide +kernel)) vf) (ed_strX (by decide +kernel) (by decide +kernel) (by decide +kernel))) vf) fun v H5 r5 ⟨u, hu1, hu2, hu3, ev⟩ => ?_
      subst ev
      exact fin u H5 ⟨hu1, by omega, by omega⟩ ((tB b dg ns).trans r4 r5)
    · refine a_if (R := tB b dg ns) (et_v (ed_eqn (K := K) (i := kd) (j := 2) (ed_num (n := 1) rfl) ed_int)) (fun _ H5 r5 => ?_) (fun _ H5 r5 => ?_)
      · have c2 : ∀ {H4}, ED (tB b dg ns) (tC (.str "LL")) [some (.ref b), some (.int kd), some (.str f1), some (.str s1), none, none] H4 (dX (tB b dg ns) 2 2) := fun {H4} => ed_strX (by decide +kernel) (by decide +kernel) (by decide +kernel)
        refine a_last (R := tB b dg ns) (ed_addX (a := 8) (b := 16) (c := 0) (d := 2) (by decide) (ed_addX (a := 6) (b := 14) (c := 2) (d := 2) (by decide) (ed_addX (a := 6) (b := 11) (c := 0) (d := 3) (by decide) (ed_addX (a := 4) (b := 9) (c := 2) (d := 2) (by decide) (ed_addX (a := 4) (b := 7) (c := 0) (d := 2) (by decide) (ed_addX (a := 2) (b := 5) (c := 2) (d := 2) (by decide) (ed_addX (a := 2) (b := 2) (c := 0) (d := 3) (by decide) c2 vf) c2) vs) c2) vf) c2) vs) fun v H6 r6 ⟨u, hu1, hu2, hu3, ev⟩ => ?_
        subst ev
        exact fin u H6 ⟨hu1, by omega, by omega⟩ ((tB b dg ns).trans r4 ((tB b dg ns).trans r5 r6))
      · refine a_if (R := tB b dg ns) (et_v (ed_eqn (K := K) (i := kd) (j := 3) (ed_num (n := 1) rfl) ed_int)) (fun _ H6 r6 => ?_) (fun _ H6 r6 => ?_)
        · refine a_last (R := tB b dg ns) (ed_strX (a := 8) (b := 18) (by decide +kernel) (by decide +kernel) (by decide +kernel)) fun v H7 r7 ⟨u, hu1, hu2, hu3, ev⟩ => ?_
          subst ev
          exact fin u H7 ⟨hu1, by omega, by omega⟩ ((tB b dg ns).trans r4 ((tB b dg ns).trans r5 ((tB b dg ns).trans r6 r7)))
        · refine a_last (R := tB b dg ns) (ed_strX (a := 8) (b := 18) (by decide +kernel) (by decide +kernel) (by decide +kernel)) fun v H7 r7 ⟨u, hu1, hu2, hu3, ev⟩ => ?_
          subst ev
          exact fin u H7 ⟨hu1, by omega, by omega⟩ ((tB b dg ns).trans r4 ((tB b dg ns).trans r5 ((tB b dg ns).trans r6 r7)))
end
end Mk
set_option Elab.async false
set_option linter.all false
set_option maxRecDepth 100000
set_option maxHeartbeats 400000
/-! the law's layout -/
namespace Mk
open PySem PySem.Spec PyProof.Rows L2 Evl
def LayB (n : Nat) (L : Lay) : Prop := L.length ≤ n ∧ ∀ p, some p ∈ L → bdP 1000 p.2.p
def PL (K : PySem.W.Frag) (n : Nat) (H : Hp) (xs : List V) : Prop := ∃ L, LayB n L ∧ Tks K H (L.map itemK) xs
theorem PL.ts {K : PySem.W.Frag} {n : Nat} {H H' : Hp} {xs : List V} (h : PL K n H xs) (e : TSt H H') : PL K n H' xs := let ⟨L, h1, h2⟩ := h; ⟨L, h1, h2.to e⟩
theorem PL.app {K : PySem.W.Frag} {n m : Nat} {H : Hp} {xs ys : List V} (h : PL K n H xs) (g : PL K m H ys) : PL K (n + m) H (xs ++ ys) := by
  obtain ⟨L, ⟨h1, h2⟩, h3⟩ := h
  obtain ⟨M, ⟨g1, g2⟩, g3⟩ := g
  refine ⟨L ++ M, ⟨by rw [List.length_append]; omega, fun p hp => ?_⟩, by rw [List.map_append]; exact h3.app g3⟩
  rcases List.mem_append.mp hp with hp | hp
  · exact h2 p hp
  · exact g2 p hp
theorem PL.mono {K : PySem.W.Frag} {n m : Nat} {H : Hp} {xs : List V} (h : PL K n H xs) (hnm : n ≤ m) : PL K m H xs := let ⟨L, h1, h2⟩ := h; ⟨L, ⟨by have := h1.1; omega, h1.2⟩, h2⟩
theorem PL.len {K : PySem.W.Frag} {n : Nat} {H : Hp} {xs : List V} (h : PL K n H xs) : xs.length ≤ n := by
  obtain ⟨L, h1, h2⟩ := h
  rw [h2.len, List.length_map]
  exact h1.1
theorem PL.cut {K : PySem.W.Frag} {n : Nat} {H : Hp} {xs : List V} (h : PL K n H xs) (lo hi : Option Int) : PL K n H (cutV xs lo hi) := by
  obtain ⟨L, ⟨h1, h2⟩, h3⟩ := h
  unfold cutV
  refine ⟨(L.drop (HT.sIx xs.length 0 lo)).take (HT.sIx xs.length xs.length hi - HT.sIx xs.length 0 lo), ⟨?_, fun p hp => h2 p (List.mem_of_mem_drop (List.mem_of_mem_take hp))⟩, ?_⟩
  · rw [List.length_take, List.length_drop]
    omega
  · rw [List.map_take, List.map_drop]
    exact (h3.drop _).take _
theorem pieces_items (l : List Piece) : l.map pieceK = (l.map some).map itemK := by
  rw [List.map_map]
  rfl
def EOU (R : Tr) (to : TO) (σ : L2.St) (H : Hp) : Prop := ∀ H1, R.r H H1 → ∀ Q : Option Int → Hp → Prop, (∀ o H2, R.r H1 H2 → Q o H2) → to σ H1 Q
def dKd (R : Tr) : Ds R := ⟨fun _ v => ∃ c : Kd, v = .str c.str, fun _ h => h⟩
def dTurn (R : Tr) : Ds R := ⟨fun H v => ∃ (a : Addr) (ks : List Int), v = .ref a ∧ R.ok a ∧ H a = some (.lst (ks.map V.int)) ∧ ks.length ≤ 8, fun e ⟨a, ks, h1, h2, h3, h4⟩ => ⟨a, ks, h1, h2, R.keep e h2 h3, h4⟩⟩
section
variable {R : Tr} {K : PySem.W.Frag} {σ : L2.St} {H : Hp} {ta tb te : TE} {E : XK} {D : Ends} {tu tw tz tI : TS} {t : L2.TT} {d : Ds R}
theorem eou_none : EOU R tNoPart σ H := fun H1 _ _ q => q none H1 (R.refl H1)
theorem eou_some {p : Int → Prop} (h : ED R te σ H (dI R p)) : EOU R (tPart te) σ H := fun H1 e _ q => h H1 e _ fun v H2 e2 ⟨i, _, ev⟩ => ⟨i, ev, q (some i) H2 e2⟩
theorem el_slR {n m : Nat} {l : Addr} {xs : List V} {tl th : TO} (hs : σ[n]? = some (some (.ref l))) (hl : H l = some (.lst xs)) (ok : R.ok l) (hp : PL K m H xs) (h1 : EOU R tl σ H) (h2 : EOU R th σ H) : EL R (tSl (rSlL K) (tVar n) tl th) σ H (PL K m) := fun H1 e Q q =>
  ⟨.ref l, hs, h1 H1 e _ fun lo H2 e2 => h2 H2 (R.trans e e2) _ fun hi H3 e3 => by
    have e03 := R.trans (R.trans e e2) e3
    exact ⟨l, xs, rfl, .inl (.inl (R.keep e03 ok hl)), fun p hpn => q p _ _ (R.fresh (R.trans e2 e3) hpn) (R.trans (R.trans e2 e3) (R.ex (Ex.new hpn))) upd_same (((hp.ts (R.ts e03)).cut lo hi).ts (TSt.ex (Ex.new hpn)))⟩⟩
theorem el_catR {n m : Nat} (ok : ∀ p, H p = none → R.ok p) (hnm : n + m ≤ 100000) (ha : EL R ta σ H (PL K n)) (hb : EL R tb σ H (PL K m)) : EL R (tOp rCat ta tb) σ H (PL K (n + m)) := fun H1 e Q q => ha H1 e _ fun p xs H2 hp e2 hx p1 => hb H2 (R.trans e e2) _ fun r ys H3 hr e3 hy p2 => by
  have okp := ok p (R.fresh e hp)
  have p1' := p1.ts (R.ts e3)
  refine ⟨p, r, xs, ys, rfl, rfl, R.keep e3 okp hx, hy, sz5 (by have := p1'.len; have := p2.len; omega), fun s hs => q s _ _ (R.fresh (R.trans e2 e3) hs) (R.trans (R.trans e2 e3) (R.ex (Ex.new hs))) upd_same ((p1'.app p2).ts (TSt.ex (Ex.new hs)))⟩
theorem el_placed {n m : Nat} {v : V} {p : P5} (hs : σ[n]? = some (some v)) (hv : Tk K H (poseK p) v) (hb : bdP 50 p.p) (hm : m ≤ 100) (h : ED R te σ H (dX R 0 m)) : EL R (tCall (spPlaced K) [] E (tCons (tVar n) (tCons te tNil))) σ H (PL K m) := fun H1 e Q q =>
  ⟨v, hs, h H1 e _ fun x H2 e2 ⟨w, w1, _, w2, ex⟩ => by
    subst ex
    refine ⟨p, w, w1, by omega, hb, tks_cons.mpr ⟨v, [.str w], rfl, (hv.to (R.ts (R.trans e e2))), Tks.one (tkx w)⟩, fun l hl hbd r xs H' hr e3 hx ht => ?_⟩
    refine q r xs H' (R.fresh e2 hr) (R.trans e2 (R.ex e3)) hx ⟨l.map some, ⟨by rw [List.length_map]; omega, fun q hq => ?_⟩, by rw [← pieces_items]; exact ht⟩
    obtain ⟨z, hz, ez⟩ := List.mem_map.mp hq
    cases ez
    exact hbd _ hz⟩
theorem da_rep : ∀ {k : Nat} {vs : List V} {H : Hp}, DA (List.replicate k d) H vs → vs.length = k ∧ ∀ x ∈ vs, d.p H x
  | 0, vs, _, h => by
    have h : vs = [] := h
    subst h
    exact ⟨rfl, fun x hx => nomatch hx⟩
  | k + 1, vs, H, h => by
    obtain ⟨v, r, rfl, h1, h2⟩ := h
    obtain ⟨g1, g2⟩ := da_rep h2
    refine ⟨by rw [List.length_cons, g1], fun x hx => ?_⟩
    rcases List.mem_cons.mp hx with rfl | hx
    · exact h1
    · exact g2 x hx
theorem el_lstD {k : Nat} {tas : TA} (hk : 0 < k) (hk2 : k ≤ 1000) (h : EA R tas σ H (List.replicate k d)) : EL R (tLst tas) σ H fun H2 xs => xs ≠ [] ∧ ∀ x ∈ xs, d.p H2 x := fun H1 e Q q =>
  h H1 e _ fun vs H2 e2 p => by
    obtain ⟨g1, g2⟩ := da_rep p
    refine ⟨sz5 (by omega), fun l hl => q l vs _ (R.fresh e2 hl) (R.trans e2 (R.ex (Ex.new hl))) upd_same ⟨fun z => ?_, fun x hx => d.mono (R.ex (Ex.new hl)) (g2 x hx)⟩⟩
    rw [z] at g1
    simp at g1
    omega
theorem ed_turn (ok : ∀ p, H p = none → R.ok p) {tas : TA} (ks : List Int) (hk : ks.length ≤ 8) (h : EA R tas σ H ((ks.map NestedKey.num).map (dK R K))) : ED R (tLst tas) σ H (dTurn R) := fun H1 e Q q =>
  el_lst (ks.map NestedKey.num) h (by rw [List.length_map]; omega) H1 e Q fun p xs H2 hp e2 hx ht => by
    have ex := Tks.ints_of ht
    subst ex
    exact q (.ref p) H2 e2 ⟨p, ks, rfl, ok p (R.fresh e hp), hx, hk⟩
theorem ed_pick {b dg : Addr} {ns : List Int} {n : Nat} {d : Ds (tB b dg ns)} (hs : σ[n]? = some (some (.ref b))) (hb : Bx b dg ns H) (hl : EL (tB b dg ns) te σ H fun H2 xs => xs ≠ [] ∧ ∀ x ∈ xs, d.p H2 x) : ED (tB b dg ns) (tCall (spPick K) [] E (tCons (tVar n) (tCons te tNil))) σ H d := fun H1 e Q q =>
  ⟨.ref b, hs, hl H1 e _ fun p xs H2 hp e2 hx ⟨h1, h2⟩ => ⟨b, dg, ns, p, xs, rfl, hx, bx_ok (e.2 hb) p hp, h1, ((tB b dg ns).trans e e2).2 hb, fun v H' hv r => q v H' ((tB b dg ns).trans e2 r) (d.mono r (h2 v hv))⟩⟩
theorem ed_tupG {ds : List (Ds R)} {tas : TA} {p : NestedKey → Prop} (hl : ds.length ≤ 100) (h : EA R tas σ H ds) (g : ∀ H vs, DA ds H vs → ∃ ks, p (.tup ks) ∧ Tks K H ks vs) : ED R (tTup tas) σ H (dE R K p) := fun H1 e Q q =>
  h H1 e _ fun vs H2 e2 da => by
    obtain ⟨ks, h1, h2⟩ := g H2 vs da
    refine ⟨by rw [da.len]; exact sz5 (by omega), fun a ha => q _ _ (R.trans e2 (R.ex (Ex.new ha))) ⟨.tup ks, h1, mT (R := R) (.inl upd_same) (h2.ex (Ex.new ha))⟩⟩
/-- range of a number told a little -/
theorem a_forU {Re : Tr} {tas : TA} {j : Nat} {tb2 : TS} {p : Int → Prop} (h : EA Re tas σ H [dI Re p]) (hp : ∀ i, p i → 0 ≤ i ∧ i ≤ 20) (Pv : Nat → L2.St → Hp → Prop) (h0 : ∀ H1, Re.r H H1 → Pv 0 σ H1)
    (hs : ∀ (i : Nat) (x : Int) σ' H', i < 20 → Pv i σ' H' → tb2 { D with nx := Pv (i + 1), ct := Pv (i + 1), bk := tz D } (σ'.set j (some (.int x))) H') (hd : ∀ (i : Nat) σ' H', i ≤ 20 → Pv i σ' H' → tz D σ' H') : tSeq (tFor (iRng1 tas) (gName j) tb2) tz D σ H :=
  h H (Re.refl H) _ fun vs H1 e ⟨v, r, e3, ⟨n, hn, ev⟩, e4⟩ => by
    have e4 : r = [] := e4
    subst e3 e4 ev
    have hb := hp n hn
    refine ⟨n, rfl, by omega, by omega, for_it (walk_range (lo := 0) (n := n.toNat)) Pv (h0 H1 e) (fun _ _ _ _ _ => trivial) (fun i x σ' H' H'' hi p y => ?_) fun σ' H' p => hd n.toNat σ' H' (by omega) p⟩
    obtain ⟨rfl, rfl⟩ := y
    exact hs i _ σ' _ (by omega) p
end
theorem tB_mut {b dg : Addr} {ns : List Int} {H0 H : Hp} {l : Addr} {xs ys : List V} (hb : Bx b dg ns H0) (r : (tB b dg ns).r H0 H) (hl : H0 l = none) (hx : H l = some (.lst xs)) : (tB b dg ns).r H0 (upd H l (.lst ys)) := by
  obtain ⟨n, _, hbb⟩ := hb.at_
  have lb : l ≠ b := fun z => by rw [z, hbb] at hl; cases hl
  have ld : l ≠ dg := fun z => by rw [z, hb.dig] at hl; cases hl
  refine ⟨⟨fun a o ne h => ?_, r.1.2.1.lst hx, fun a h => ?_⟩, fun h0 => ?_⟩
  · rw [upd_ne (ne_of_none h hl)]
    exact r.1.1 a o ne h
  · by_cases z : a = l
    · subst z; rw [upd_same] at h; cases h
    · rw [upd_ne z] at h; exact r.1.2.2 a h
  · obtain ⟨⟨m, h1, h2⟩, h3, h4⟩ := r.2 h0
    exact ⟨⟨m, h1, by rw [upd_ne lb.symm]; exact h2⟩, by rw [upd_ne ld.symm]; exact h3, h4⟩
theorem bd_B5 : bdP 5 ⟨5, 1, 0, 0⟩ := by
  refine ⟨⟨?_, ?_⟩, ⟨?_, ?_⟩, ⟨?_, ?_⟩, ?_, ?_⟩ <;> decide
def spLayout (K : PySem.W.Frag) : Sp := fun vs H Q _ => ∃ (b dg : Addr) (ns : List Int), vs = [.ref b] ∧ Bx b dg ns H ∧ ∀ r xs H', H r = none → (tB b dg ns).r H H' → H' r = some (.lst xs) → PL K 50 H' xs → Q (.ref r) H'
theorem kd_mem (x : Str) (h : x = "S" ∨ x = "H" ∨ x = "C" ∨ x = "P" ∨ x = "Q" ∨ x = "X") : ∃ c : Kd, x = c.str := by
  rcases h with rfl | rfl | rfl | rfl | rfl | rfl
  · exact ⟨.S, rfl⟩
  · exact ⟨.H, rfl⟩
  · exact ⟨.C, rfl⟩
  · exact ⟨.P, rfl⟩
  · exact ⟨.Q, rfl⟩
  · exact ⟨.X, rfl⟩
theorem pose5 {K : PySem.W.Frag} {H : Hp} {R : Tr} {B : Int} {p1 p2 p3 p4 p5 : Int → Prop} (h1 : ∀ i, p1 i → -B ≤ i ∧ i ≤ B) (h2 : ∀ i, p2 i → -B ≤ i ∧ i ≤ B) (h3 : ∀ i, p3 i → -B ≤ i ∧ i ≤ B) (h4 : ∀ i, p4 i → -B ≤ i ∧ i ≤ B) (vs : List V)
    (h : DA [dI R p1, dI R p2, dI R p3, dI R p4, dI R p5] H vs) : ∃ ks, (∃ p : P5, NestedKey.tup ks = poseK p ∧ bdP B p.p) ∧ Tks K H ks vs := by
  obtain ⟨_, _, rfl, ⟨a, ha, rfl⟩, _, _, rfl, ⟨b, hb, rfl⟩, _, _, rfl, ⟨c, hc, rfl⟩, _, _, rfl, ⟨d, hd, rfl⟩, _, r, rfl, ⟨e, _, rfl⟩, hr⟩ := h
  rw [show r = [] from hr]
  exact ⟨pL ⟨⟨a, b, c, d⟩, e⟩, ⟨⟨⟨a, b, c, d⟩, e⟩, rfl, h1 a ha, h2 b hb, h3 c hc, h4 d hd⟩, Tks.ints [a, b, c, d, e]⟩
section
variable {P : Program} {w : World} {K : PySem.W.Frag} {mg : Str → Option Value} {base : Heap} {d : Da}
theorem ok__law_layout (T : Tx w K mg d) : FnOk P w K mg base CX0 7 (d.f 32) (d.fd 32) ["_law_box"] (spLayout K) := by
  have nd := sc__law_layout.nd
  refine T._law_layout.fn.ok sc__law_layout (fun vs H Q E h => ?_) (fun cdv A outer s H vs Q E hr h => ?_)
  · obtain ⟨_, _, _, rfl, _⟩ := h
    rfl
  obtain ⟨b, dg, ns, rfl, hb, q⟩ := h
  refine ⟨_, (pss_cons (ps_set (i := 1) nd rfl (.inl rfl) (pc T._law_draw (ok__law_draw T) (hr.mono (by decide)) (pa_cons (pv 0) (pa_cons pe_int pa_nil))))
      (pss_cons (ps_set (i := 2) nd rfl (.inr rfl) (pe_tup (pa_cons (pe_op op_sub (pc T._law_draw (ok__law_draw T) (hr.mono (by decide)) (pa_cons (pv 0) (pa_cons pe_int pa_nil))) pe_int) (pa_cons (pc T._law_draw (ok__law_draw T) (hr.mono (by decide)) (pa_cons (pv 0) (pa_cons pe_int pa_nil))) (pa_cons pe_int (pa_cons (pc T._law_draw (ok__law_draw T) (hr.mono (by decide)) (pa_cons (pv 0) (pa_cons pe_int pa_nil))) (pa_cons (pc T._law_draw (ok__law_draw T) (hr.mono (by decide)) (pa_cons (pv 0) (pa_cons pe_int pa_nil))) pa_nil)))))))
      (pss_cons (ps_if (pt_cmpR op_eq (pv 1) pe_int (nomark _)) (pss_one (ps_ret (pc T._law_placed (ok__law_placed T) (hr.mono (by decide)) (pa_cons (pv 2) (pa_cons (pe_slice sl_str (pc T._law_loop (ok__law_loop T) (hr.mono (by decide)) (pa_cons (pv 0) pa_nil)) po_none (po_some pe_int)) pa_nil))))) pss_nil)
      (pss_cons (ps_if (pt_cmpR op_eq (pv 1) pe_int (nomark _)) (pss_cons (ps_set (i := 5) nd rfl (.inl rfl) (pc T._law_placed (ok__law_placed T) (hr.mono (by decide)) (pa_cons (pv 2) (pa_cons pe_str pa_nil))))
      (pss_one (ps_ret (pe_op op_cat (pe_op op_cat (pe_slice sl_list (pv 5) po_none (po_some (pc T._law_draw (ok__law_draw T) (hr.mono (by decide)) (pa_cons (pv 0) (pa_cons pe_int pa_nil))))) (pe_lst (pa_cons pe_non pa_nil))) (pe_slice sl_list (pv 5) (po_some pe_int) po_none))))) pss_nil)
      (pss_cons (ps_if (pt_cmpR op_eq (pv 1) pe_int (nomark _)) (pss_cons (ps_set (i := 6) nd rfl (.inr rfl) (pc T._law_pick (ok__law_pick T) (hr.mono (by decide)) (pa_cons (pv 0) (pa_cons (pe_lst (pa_cons pe_str (pa_cons pe_str (pa_cons pe_str (pa_cons pe_str pa_nil))))) pa_nil))))
      (pss_cons (ps_set (i := 7) nd rfl (.inl rfl) (pc T._law_pick (ok__law_pick T) (hr.mono (by decide)) (pa_cons (pv 0) (pa_cons (pe_lst (pa_cons (pe_lst (pa_cons pe_int (pa_cons pe_int (pa_cons pe_int (pa_cons pe_int pa_nil))))) (pa_cons (pe_lst (pa_cons pe_int (pa_cons pe_int pa_nil))) (pa_cons (pe_lst (pa_cons pe_int (pa_cons pe_int (pa_cons pe_int (pa_cons pe_int (pa_cons pe_int (pa_cons pe_int (pa_cons pe_int (pa_cons pe_int pa_nil))))))))) (pa_cons (pe_lst (pa_cons pe_int (pa_cons pe_int pa_nil))) pa_nil))))) pa_nil))))
      (pss_one (ps_ret (pe_lc (own := [("_law_k", 8)]) (g := gName 8) (tt := tYes) rfl nd (pi_list (pv 7)) (blkOk_by (N := ["_law_box", "_law_kind", "_law_pose_here", "_law_found", "_law_lap", "_law_ring", "_law_piece", "_law_turns", "_law_k"]) (sc := defScope s__law_layout) (by decide +kernel)) (fun _ _ _ _ _ => (pg_name (i := 8) nd rfl (.inl rfl) (.inr rfl))) (fun _ _ _ _ _ => pts_nil) (fun _ _ _ _ _ => (pe_tup (pa_cons (pv 6) (pa_cons (pc T._law_laid (ok__law_laid T) (hr.mono (by decide)) (pa_cons (pv 2) (pa_cons (pe_op (r := rCatT K) op_catT (pe_callTy (r := rTupS K) cr_tupS (by rfl) T.tuple PyProof.Rows.boot_tuple (pa_cons (pc T._law_turned (ok__law_turned T) (hr.mono (by decide)) (pa_cons (pe_lst (pa_cons pe_int (pa_cons pe_int (pa_cons pe_int (pa_cons pe_int pa_nil))))) (pa_cons (pv 8) pa_nil))) pa_nil)) (pe_tup (pa_cons (pe_callTy call_int1 (by rfl) T.int PyProof.Rows.boot_int (pa_cons (pv 8) pa_nil)) pa_nil))) pa_nil))) pa_nil))))))))) pss_nil)
      (pss_cons (ps_set (i := 3) nd rfl (.inl rfl) (pe_lst pa_nil))
      (pss_cons (ps_for PassesOwn.never rfl (pi_range1 (by rfl) T.range (pa_cons (pc T._law_draw (ok__law_draw T) (hr.mono (by decide)) (pa_cons (pv 0) (pa_cons pe_int pa_nil))) pa_nil)) (pg_name (i := 4) nd rfl (.inl rfl)) (pss_cons (ps_set (i := 6) nd rfl (.inr rfl) (pe_tup (pa_cons (pc T._law_pick (ok__law_pick T) (hr.mono (by decide)) (pa_cons (pv 0) (pa_cons (pe_lst (pa_cons pe_str (pa_cons pe_str (pa_cons pe_str (pa_cons pe_str (pa_cons pe_str (pa_cons pe_str pa_nil))))))) pa_nil))) (pa_cons (pe_tup (pa_cons (pe_op op_mul pe_int (pc T._law_draw (ok__law_draw T) (hr.mono (by decide)) (pa_cons (pv 0) (pa_cons pe_int pa_nil)))) (pa_cons pe_int (pa_cons (pe_op op_mul pe_int (pc T._law_draw (ok__law_draw T) (hr.mono (by decide)) (pa_cons (pv 0) (pa_cons pe_int pa_nil)))) (pa_cons pe_int (pa_cons (pe_op op_mul pe_int (pc T._law_draw (ok__law_draw T) (hr.mono (by decide)) (pa_cons (pv 0) (pa_cons pe_int pa_nil)))) pa_nil)))))) pa_nil))))
      (pss_one (ps_if (pt_val (pc T._law_is_free (ok__law_is_free T) (hr.mono (by decide)) (pa_cons (pv 3) (pa_cons (pe_lst (pa_cons (pv 6) pa_nil)) pa_nil)))) (pss_one (ps_expr (pe_bm PySem.F.plainAttrs_list PySem.F.slot_list_append PySem.F.type_list_append mt_append (pv 3) (pa_cons (pv 6) pa_nil)))) pss_nil))))
      (pss_one (ps_ret (pv 3)))))))))), ?_⟩
  -- kind
  refine a_setB (ed_draw (ns := ns) rfl (by decide) hb) fun v H1 r1 ⟨kd, hk, ev⟩ => ?_
  subst ev
  have hb1 := r1.2 hb
  -- pose
  have cI : ∀ {R : Tr} {σ : L2.St} {H : Hp} {i : Int}, ED R (tC (.int i)) σ H (dI R fun j => j = i) := fun {R σ H i} => ed_c (d := dI R fun j => j = i) ⟨i, rfl, rfl⟩
  refine a_setB (tr := tB b dg ns) (d := dE (tB b dg ns) K fun k => ∃ p : P5, k = poseK p ∧ bdP 10 p.p) (ed_tupG (by show 5 ≤ 100; decide) (ea_cons (ed_opI (p3 := fun i => -4 ≤ i ∧ i ≤ 4) (ed_draw (ns := ns) (dg := dg) (b := b) rfl (by decide) hb1) cI (fun i j h1 h2 => by omega)) (ea_cons (ed_draw (ns := ns) (dg := dg) (b := b) rfl (by decide) hb1) (ea_cons cI (ea_cons (ed_draw (ns := ns) (dg := dg) (b := b) rfl (by decide) hb1) (ea_one (ed_draw (ns := ns) (dg := dg) (b := b) rfl (by decide) hb1))))))
    fun H vs h => pose5 (fun i h => by omega) (fun i h => by omega) (fun i h => by omega) (fun i h => by omega) vs h) fun v H2 r2 ⟨_, ⟨p, rfl, hbd⟩, hv⟩ => ?_
  have hb2 := r2.2 hb1
  have r12 := (tB b dg ns).trans r1 r2
  show tSeq _ _ _ [some (.ref b), some (.int kd), some v, none, none, none, none, none, none] H2
  -- kind 0
  refine a_ifS (R := tx) (et_v (ed_eqn (K := K) (i := kd) (j := 0) (ed_num (n := 1) rfl) ed_int)) (fun _ H3 e3 => ?_) (fun _ H3 e3 => ?_)
  · have hb3 := ((tB b dg ns).ex e3).2 hb2
    refine a_retL (R := tB b dg ns) (el_placed (K := K) (m := 50) (n := 2) rfl (hv.ex e3) (bd_mono hbd (by decide)) (by decide) (ed_slX (a := 0) (b := 50) (lo := none) (hi := some 24) (by decide) (fun H4 e4 Q1 k1 => ⟨.ref b, rfl, b, dg, ns, rfl, e4.2 hb3, fun w H5 w1 w2 r5 => k1 _ H5 r5 ⟨w, w1, Nat.zero_le _, w2, rfl⟩⟩) (fun _ _ => eo_none) (fun _ _ => eo_some (K := K) ed_int))) fun r xs H4 hr4 r4 hx hp => ?_
    have r24 := (tB b dg ns).trans ((tB b dg ns).ex e3) r4
    exact q r xs H4 ((tB b dg ns).fresh ((tB b dg ns).trans r12 ((tB b dg ns).ex e3)) hr4) ((tB b dg ns).trans r12 r24) hx hp
  -- kind 1
  refine a_ifS (R := tx) (et_v (ed_eqn (K := K) (i := kd) (j := 1) (ed_num (n := 1) rfl) ed_int)) (fun _ H4 e4 => ?_) (fun _ H4 e4 => ?_)
  · have r4 := (tB b dg ns).trans r12 ((tB b dg ns).ex (Ex.trans e3 e4))
    have hb4 := r4.2 hb
    refine a_setL (R := tB b dg ns) (el_placed (K := K) (m := 8) (n := 2) rfl (hv.ex (Ex.trans e3 e4)) (bd_mono hbd (by decide)) (by decide) (ed_strX (by decide +kernel) (by decide) (by decide +kernel))) fun l xs H5 hl5 r5 hx5 hp5 => ?_
    have hb5 := r5.2 hb4
    have okl := bx_ok hb4 l hl5
    have hN : EL (tB b dg ns) (tLst (tCons (tC .non) tNil)) [some (.ref b), some (.int kd), some v, none, none, some (.ref l), none, none, none] H5 (PL K 1) := (el_lst (K := K) [.none] (ea_one ed_non) (by show 1 ≤ 100000; decide)).imp fun H6 xs t => ⟨[none], ⟨Nat.le_refl _, fun p hp => by simp at hp⟩, t⟩
    refine a_retL (R := tB b dg ns) (el_catR (K := K) (n := 9) (m := 8) (bx_ok hb5) (by decide) (el_catR (n := 8) (m := 1) (bx_ok hb5) (by decide) (el_slR (n := 5) rfl hx5 okl hp5 eou_none (eou_some (ed_draw (ns := ns) (dg := dg) (b := b) rfl (by decide) hb5))) hN) (el_slR (n := 5) rfl hx5 okl hp5 (eou_some cI) eou_none)) fun r ys H6 hr6 r6 hx6 hp6 => ?_
    exact q r ys H6 ((tB b dg ns).fresh ((tB b dg ns).trans r4 r5) hr6) ((tB b dg ns).trans ((tB b dg ns).trans r4 r5) r6) hx6 (hp6.mono (by decide))
  -- kind 2
  refine a_ifS (R := tx) (et_v (ed_eqn (K := K) (i := kd) (j := 2) (ed_num (n := 1) rfl) ed_int)) (fun _ H5 e5 => ?_) (fun _ H5 e5 => ?_)
  · have r5 := (tB b dg ns).trans r12 ((tB b dg ns).ex ((Ex.trans e3 e4).trans e5))
    have hb5 := r5.2 hb
    have sK : ∀ {R : Tr} {σ : L2.St} {H : Hp} (c : Kd), ED R (tC (.str c.str)) σ H (dKd R) := fun {R σ H} c => ed_c (d := dKd R) ⟨c, rfl⟩
    refine a_setB (tr := tB b dg ns) (ed_pick (K := K) (d := dKd (tB b dg ns)) rfl hb5 (el_lstD (k := 4) (by decide) (by decide) (ea_cons (sK .S) (ea_cons (sK .X) (ea_cons (sK .C) (ea_one (sK .H))))))) fun vc H6 r6 ⟨c, ec⟩ => ?_
    subst ec
    have hb6 := r6.2 hb5
    refine a_setB (tr := tB b dg ns) (ed_pick (K := K) (d := dTurn (tB b dg ns)) rfl hb6 (el_lstD (k := 4) (by decide) (by decide) (ea_cons (ed_turn (K := K) (bx_ok hb6) [0, 2, 4, 6] (by decide) (ea_cons ed_int (ea_cons ed_int (ea_cons ed_int (ea_one ed_int))))) (ea_cons (ed_turn (K := K) (bx_ok hb6) [0, 4] (by decide) (ea_cons ed_int (ea_one ed_int)))
      (ea_cons (ed_turn (K := K) (bx_ok hb6) [0, 1, 2, 3, 4, 5, 6, 7] (by decide) (ea_cons ed_int (ea_cons ed_int (ea_cons ed_int (ea_cons ed_int (ea_cons ed_int (ea_cons ed_int (ea_cons ed_int (ea_one ed_int))))))))) (ea_one (ed_turn (K := K) (bx_ok hb6) [0, 3] (by decide) (ea_cons ed_int (ea_one ed_int))))))))) fun vt H7 r7 ⟨a, ks, ea, oka, hxa, hka⟩ => ?_
    subst ea
    have r57 := (tB b dg ns).trans r6 r7
    have hv7 : Tk K H7 (poseK p) v := (hv.ex ((Ex.trans e3 e4).trans e5)).to ((tB b dg ns).ts r57)
    have er : (ks.map fun k => itemK (some (c, laid p ⟨rot k ⟨5, 1, 0, 0⟩, k⟩))) = (List.range (ks.map NestedKey.num).length).map fun i => itemK (some (c, laid p ⟨rot (ks.getD i 0) ⟨5, 1, 0, 0⟩, ks.getD i 0⟩)) := by
      rw [List.length_map]
      exact (range_getD (f := fun k => itemK (some (c, laid p ⟨rot k ⟨5, 1, 0, 0⟩, k⟩)))).symm
    have hcomp := el_lcA (K := K) (σ := [some (.ref b), some (.int kd), some v, none, none, none, some (.str c.str), some (.ref a), none]) (H := H7) (vs := [8]) (g := gName 8) (wi := iList K (tVar 7)) (te := tTup (tCons (tVar 6) (tCons (tCall (spK K fLaid) [] E0 (tCons (tVar 2) (tCons (tOp (rCatT K) (tCB (rTupS K) (tCons (tCall (spTurned K) [] E0 (tCons (tLst (tCons (tC (.int 5)) (tCons (tC (.int 1)) (tCons (tC (.int 0)) (tCons (tC (.int 0)) tNil))))) (tCons (tVar 8) tNil))) tNil)) (tTup (tCons (tCB (fun xs H Q => (∃ i, xs = [V.int i] ∧ Q (.int i) H) ∨ ∃ k, xs = [V.bl k] ∧ Q (.int (if k then 1 else 0)) H) (tCons (tVar 8) tNil)) tNil))) tNil))) tNil)))
      (fun i => itemK (some (c, laid p ⟨rot (ks.getD i 0) ⟨5, 1, 0, 0⟩, ks.getD i 0⟩))) (ei_listV (Re := tx) (R := tx) (K := K) (n := 7) (a := a) (ks := ks.map NestedKey.num) rfl (.inl (.inl hxa)) (Tks.ints ks) trivial trivial) (by rw [List.length_map]; omega) fun i v8 H8 hlt e8 hv8 Q1 k1 => by
        rw [List.length_map] at hlt
        rw [getD_map (d := (0 : Int)) (f := NestedKey.num) hlt] at hv8
        have hv8 := pN hv8
        subst hv8
        exact k1 _ _ rfl (Ex.refl _) (ed_tup [.text c.str, poseK (laid p ⟨rot (ks.getD i 0) ⟨5, 1, 0, 0⟩, ks.getD i 0⟩)] (ea_cons (ed_txt (n := 6) rfl) (ea_one (ed_callK [poseK p, poseK ⟨rot (ks.getD i 0) ⟨5, 1, 0, 0⟩, ks.getD i 0⟩] ⟨_, _, rfl, rfl⟩ (ea_cons (ed_key (n := 2) rfl (hv7.ex e8)) (ea_one (ed_pose (p := rot (ks.getD i 0) ⟨5, 1, 0, 0⟩) (n := ks.getD i 0) rfl
          (ed_tupOf _ (fun _ _ _ h => h) (el_turned (p := ⟨5, 1, 0, 0⟩) (e := ks.getD i 0) (ED.s_of_l (ED.of_new (el_lst (posL ⟨5, 1, 0, 0⟩) (ea_cons ed_int (ea_cons ed_int (ea_cons ed_int (ea_one ed_int)))) (by decide)))) (ed_num (n := 8) rfl))) (ed_int1 _ (fun _ _ _ h => h) (ed_num (n := 8) rfl)))))))) (by show 2 ≤ 100000; decide))
    rw [← er] at hcomp
    refine a_retL (R := tx) hcomp fun r xs H8 hr8 e8 hx8 ht8 => ?_
    refine q r xs H8 ((tB b dg ns).fresh ((tB b dg ns).trans r5 r57) hr8) ((tB b dg ns).trans ((tB b dg ns).trans r5 r57) ((tB b dg ns).ex e8)) hx8 ⟨ks.map fun k => some (c, laid p ⟨rot k ⟨5, 1, 0, 0⟩, k⟩), ⟨by rw [List.length_map]; omega, fun z hz => ?_⟩, by rw [List.map_map]; exact ht8⟩
    obtain ⟨k, _, ek⟩ := List.mem_map.mp hz
    cases ek
    exact bd_mono (bd_add hbd (bd_rot _ (bd_rot k bd_B5))) (by decide)
  -- kind 3
  have r5 := (tB b dg ns).trans r12 ((tB b dg ns).ex ((Ex.trans e3 e4).trans e5))
  have hb5 := r5.2 hb
  refine a_setL (R := tx) (el_lst (K := K) [] ea_nil (by decide)) fun l xs0 H6 hl e6 hx0 t0 => ?_
  have t0 := tks_nil.mp t0
  subst t0
  refine a_forU (Re := tB b dg ns) (ea_one (ed_draw (ns := ns) (dg := dg) (b := b) rfl (by decide) (((tB b dg ns).ex e6).2 hb5))) (fun i h => by omega)
    (fun i σ H' => (tB b dg ns).r H5 H' ∧ ∃ (y4 y5 y6 y7 y8 : Option V) (xs : List V), σ = [some (.ref b), some (.int kd), some v, some (.ref l), y4, y5, y6, y7, y8] ∧ H' l = some (.lst xs) ∧ PL K i H' xs)
    (fun H7 r7 => ⟨(tB b dg ns).trans ((tB b dg ns).ex e6) r7, none, none, none, none, none, [], rfl, (tB b dg ns).keep r7 (bx_ok hb5 l hl) hx0, [], ⟨Nat.le_refl _, fun p hp => nomatch hp⟩, tks_nil.mpr rfl⟩) (fun i x σ' H7 hi hP => ?_) fun i σ' H7 hi hP => ?_
  · obtain ⟨r7, y4, y5, y6, y7, y8, xs, rfl, hx7, hp7⟩ := hP
    have hb7 := r7.2 hb5
    have okl := bx_ok hb5 l hl
    show tSeq _ _ _ [some (.ref b), some (.int kd), some v, some (.ref l), some (.int x), y5, y6, y7, y8] H7
    have sK : ∀ {R : Tr} {σ : L2.St} {H : Hp} (c : Kd), ED R (tC (.str c.str)) σ H (dKd R) := fun {R σ H} c => ed_c (d := dKd R) ⟨c, rfl⟩
    refine a_setB (tr := tB b dg ns) (d := dE (tB b dg ns) K fun k => ∃ z : Piece, k = pieceK z ∧ bdP 1000 z.2.p) (ed_tupG (ds := [dKd (tB b dg ns), dE (tB b dg ns) K fun k => ∃ p : P5, k = poseK p ∧ bdP 1000 p.p]) (by show 2 ≤ 100; decide) (ea_cons (ed_pick (K := K) (d := dKd (tB b dg ns)) rfl hb7 (el_lstD (k := 6) (by decide) (by decide) (ea_cons (sK .S) (ea_cons (sK .H) (ea_cons (sK .C) (ea_cons (sK .P) (ea_cons (sK .Q) (ea_one (sK .X)))))))))
      (ea_one (ed_tupG (by show 5 ≤ 100; decide) (ea_cons (ed_opIc (p3 := fun i => 0 ≤ i ∧ i ≤ 100) cI (ed_draw (ns := ns) (dg := dg) (b := b) rfl (by decide) hb7) (fun i j h1 h2 => ⟨.inl ⟨by omega, by omega⟩, by subst h1; omega⟩)) (ea_cons cI (ea_cons (ed_opIc (p3 := fun i => 0 ≤ i ∧ i ≤ 100) cI (ed_draw (ns := ns) (dg := dg) (b := b) rfl (by decide) hb7) (fun i j h1 h2 => ⟨.inl ⟨by omega, by omega⟩, by subst h1; omega⟩)) (ea_cons cI (ea_one (ed_opIc (p3 := fun _ => True) cI (ed_draw (ns := ns) (dg := dg) (b := b) rfl (by decide) hb7) (fun i j h1 h2 => ⟨.inl ⟨by omega, by omega⟩, trivial⟩)))))))
        fun H vs h => pose5 (fun i h => by omega) (fun i h => by omega) (fun i h => by omega) (fun i h => by omega) vs h))) fun H vs h => by
          obtain ⟨v1, v2, rfl, ⟨c, rfl⟩, ⟨_, ⟨p, rfl, hp⟩, ht⟩⟩ := da2 h
          exact ⟨[.text c.str, poseK p], ⟨(c, p), rfl, hp⟩, tks_cons.mpr ⟨_, _, rfl, tkx _, Tks.one ht⟩⟩) fun vp H8 r8 ⟨_, ⟨z, rfl, hz⟩, hvp⟩ => ?_
    have hx8 := (tB b dg ns).keep r8 okl hx7
    have hp8 := hp7.ts ((tB b dg ns).ts r8)
    have hb8 := r8.2 hb7
    obtain ⟨L, hLB, hLt⟩ := hp8
    refine a_ifU (R := tx) (fun H9 e9 Q1 k1 => ?_) (fun H9 e9 => ?_) (fun H9 e9 => ?_)
    · have hLl := hLB.1
      exact ed_call (R := tx) (E := E0) (sp := spIsFree K) (σ := [some (.ref b), some (.int kd), some v, some (.ref l), some (.int x), y5, some vp, y7, y8]) (H := H8) (d := ⟨fun _ v => ∃ b, v = .bl b, fun _ h => h⟩) (ds := [dL tx K (L.map itemK), dL tx K ([z].map pieceK)]) (ea_cons (ed_lst (n := 3) rfl trivial hx8 hLt) (ea_one (ED.of_new (el_lst [pieceK z] (ea_one (ed_key (n := 6) rfl hvp)) (by show 1 ≤ 100000; decide)))))
        (fun vs H10 e10 p Q2 k2 => ⟨L, [z], by omega, by show 1 ≤ 1000; decide, p, fun b H11 e11 _ => k2 _ H11 e11 ⟨b, rfl⟩⟩) H9 e9 _ fun vb H10 e10 ⟨bb, eb⟩ => ⟨bb, eb, k1 bb H10 e10⟩
    · refine a_app (R := tx) (d := dK tx K (pieceK z)) (e9 _ _ hx8) trivial (ed_ref (n := 3) rfl) (ed_key (n := 6) rfl (hvp.ex e9)) (by rw [hLt.len, List.length_map]; have := hLB.1; omega) fun v10 H10 e10 hv10 hl10 => ?_
      have ts : TSt H10 (upd H10 l (.lst (xs ++ [v10]))) := (TSt.refl H10).lst hl10
      have r10 := (tB b dg ns).trans r7 ((tB b dg ns).trans r8 ((tB b dg ns).ex (Ex.trans e9 e10)))
      refine ⟨tB_mut hb5 r10 hl hl10, _, _, _, _, _, xs ++ [v10], rfl, upd_same, L ++ [some z], ⟨by rw [List.length_append, List.length_singleton]; have := hLB.1; omega, fun y hy => ?_⟩, ?_⟩
      · rcases List.mem_append.mp hy with hy | hy
        · exact hLB.2 y hy
        · cases List.mem_singleton.mp hy
          exact hz
      · rw [List.map_append]
        exact ((hLt.ex (Ex.trans e9 e10)).to ts).snoc (Tk.to hv10 ts)
    · exact ⟨(tB b dg ns).trans r7 ((tB b dg ns).trans r8 ((tB b dg ns).ex e9)), _, _, _, _, _, xs, rfl, e9 _ _ hx8, L, ⟨by have := hLB.1; omega, hLB.2⟩, hLt.ex e9⟩
  · obtain ⟨r7, y4, y5, y6, y7, y8, xs, rfl, hx7, hp7⟩ := hP
    refine a_ret (R := tx) (ed_ref (n := 3) (l := l) rfl) fun v8 H8 e8 hv => ?_
    have hv : v8 = .ref l := hv
    subst hv
    exact q l xs H8 ((tB b dg ns).fresh r5 hl) ((tB b dg ns).trans r5 ((tB b dg ns).trans r7 ((tB b dg ns).ex e8))) (e8 _ _ hx7) ((hp7.ts (TSt.ex e8)).mono (by omega))
end
end Mk
set_option Elab.async false
set_option linter.all false
set_option maxRecDepth 100000
set_option maxHeartbeats 400000
/-! the law: same, what can be shown, the groups' dict -/
namespace Mk
open PySem PySem.Spec PyProof.Rows L2 Evl
def spSame (K : PySem.W.Frag) : Sp := fun vs H Q _ => ∃ k : NestedKey, Tks K H [k, k] vs ∧ Shows k ∧ ∀ H', Ex H H' → Q (.bl true) H'
section
variable {P : Program} {w : World} {K : PySem.W.Frag} {mg : Str → Option Value} {base : Heap} {d : Da}
theorem ok__law_same (T : Tx w K mg d) : GOk P w K mg base CX0 1 (d.f 13) (d.fd 13) ["_law_actual", "_law_due"] (spSame K) := by
  have nd := sc__law_same.nd
  refine gok_fun T._law_same.fn sc__law_same (fun vs H Q E h => ?_) (fun cdv A outer s H vs Q E gd hr h => ?_)
  · obtain ⟨_, h, _⟩ := h
    exact h.len
  obtain ⟨k, ht, hs, q⟩ := h
  obtain ⟨v1, v2, rfl, h1, h2⟩ := tks2 ht
  refine ⟨_, (pss_one (ps_ret (pe_cmpR op_eq (pe_callB (cr_repr hr.units gd) (by rfl) T.repr PyProof.Rows.boot_repr (pa_cons (pv 0) pa_nil)) (pe_callB (cr_repr hr.units gd) (by rfl) T.repr PyProof.Rows.boot_repr (pa_cons (pv 1) pa_nil)) (nomark _)))), ?_⟩
  exact ⟨v1, rfl, k, v1, rfl, h1, hs, v2, rfl, k, v2, rfl, h2, hs, rfl, by
    have e : decide (V.str k.data.shown = V.str k.data.shown) = true := decide_eq_true rfl
    rw [e]
    exact q H (Ex.refl H)⟩
end
/-! ### what can be shown -/
theorem bulk_le {m : Nat} : ∀ {ks : List NestedKey}, (∀ k ∈ ks, k.data.bulk ≤ m) → PyData.bulkAll (NestedKey.datas ks) ≤ ks.length * (m + 1)
  | [], _ => by simp [NestedKey.datas, PyData.bulkAll]
  | k :: ks, h => by
    have h1 := h k List.mem_cons_self
    have h2 := bulk_le (m := m) (ks := ks) fun k hk => h k (List.mem_cons_of_mem _ hk)
    simp only [NestedKey.datas, PyData.bulkAll, List.length_cons, Nat.add_mul]
    omega
theorem bulk_tup {m : Nat} {ks : List NestedKey} (h : ∀ k ∈ ks, k.data.bulk ≤ m) : (NestedKey.tup ks).data.bulk ≤ ks.length * (m + 1) := by
  simp only [NestedKey.data, PyData.bulk]
  exact bulk_le h
theorem bd_ends {B : Int} {c : Kd} {p e : P5} (hp : bdP B p.p) (he : e ∈ endsOf c p) : bdP (B + 2) e.p := by
  obtain ⟨o, ho, rfl⟩ := List.mem_map.mp he
  refine bd_add hp (bd_rot _ ?_)
  rcases List.mem_cons.mp ho with rfl | ho
  · exact ⟨⟨by decide, by decide⟩, ⟨by decide, by decide⟩, ⟨by decide, by decide⟩, by decide, by decide⟩
  · cases c <;> simp only [others, List.mem_cons, List.not_mem_nil, or_false] at ho
    · subst ho; exact ⟨⟨by decide, by decide⟩, ⟨by decide, by decide⟩, ⟨by decide, by decide⟩, by decide, by decide⟩
    · subst ho; exact ⟨⟨by decide, by decide⟩, ⟨by decide, by decide⟩, ⟨by decide, by decide⟩, by decide, by decide⟩
    · subst ho; exact ⟨⟨by decide, by decide⟩, ⟨by decide, by decide⟩, ⟨by decide, by decide⟩, by decide, by decide⟩
    · rcases ho with rfl | rfl <;> exact ⟨⟨by decide, by decide⟩, ⟨by decide, by decide⟩, ⟨by decide, by decide⟩, by decide, by decide⟩
    · rcases ho with rfl | rfl <;> exact ⟨⟨by decide, by decide⟩, ⟨by decide, by decide⟩, ⟨by decide, by decide⟩, by decide, by decide⟩
    · rcases ho with rfl | rfl | rfl <;> exact ⟨⟨by decide, by decide⟩, ⟨by decide, by decide⟩, ⟨by decide, by decide⟩, by decide, by decide⟩
theorem bd_eps {L : Lay} (h : ∀ p, some p ∈ L → bdP 1000 p.2.p) {e : P5} (he : e ∈ eps L) : bdP 1002 e.p := by
  obtain ⟨p, hp, hpe⟩ := List.mem_flatMap.mp he
  have hm : some p ∈ L := by
    unfold pcs at hp
    obtain ⟨o, ho, e⟩ := List.mem_filterMap.mp hp
    have e : o = some p := e
    rw [e] at ho
    exact ho
  exact bd_mono (bd_ends (h p hm) hpe) (by decide)
theorem bd_mots {L : Lay} (h : ∀ p, some p ∈ L → bdP 1000 p.2.p) {m : P5} (hm : m ∈ mots L) : bdP 2004 m.p ∧ InH m := by
  refine ⟨?_, mots_inH hm⟩
  cases he : eps L with
  | nil =>
    unfold mots at hm
    rw [he] at hm
    cases hm
  | cons e es =>
    obtain ⟨_, f, hf, rfl⟩ := (mem_mots he).mp hm
    have h1 := bd_eps h (e := e) (by rw [he]; exact List.mem_cons_self)
    have h2 := bd_eps h hf
    exact bd_mono (bd_add h2 (bd_neg (bd_rot _ h1))) (by decide)
theorem small_pose {B : Int} (hB : B ≤ 1000000) {p : P5} (h : bdP B p.p) (hh : InH p) : small (poseK p) = true := by
  obtain ⟨⟨_, _⟩, ⟨_, _⟩, ⟨_, _⟩, _, _⟩ := h
  obtain ⟨_, _⟩ := hh
  simp only [poseK, small, smalls, Bool.and_eq_true, decide_eq_true_eq, and_true]
  refine ⟨⟨?_, ?_⟩, ⟨?_, ?_⟩, ⟨?_, ?_⟩, ⟨?_, ?_⟩, ?_, ?_⟩ <;> omega
theorem shows_tup {ks : List NestedKey} (hs : ∀ k ∈ ks, small k = true) (hd : ∀ k ∈ ks, k.data.depth ≤ 7) (hb : ∀ k ∈ ks, k.data.bulk ≤ 100) (hl : ks.length ≤ 900) : Shows (.tup ks) := by
  refine ⟨⟨ks, rfl⟩, ?_, depth_tup hd, ?_⟩
  · simp only [small]
    exact smalls_iff.mpr hs
  · have := bulk_tup hb
    have h2 : ks.length * (100 + 1) ≤ 900 * 101 := Nat.mul_le_mul_right 101 hl
    omega
theorem shows_mots {L : Lay} (h : LayB 50 L) : Shows (.tup ((mots L).map poseK)) := by
  refine shows_tup (fun k hk => ?_) (fun k hk => ?_) (fun k hk => ?_) ?_
  · obtain ⟨m, hm, rfl⟩ := List.mem_map.mp hk
    obtain ⟨h1, h2⟩ := bd_mots h.2 hm
    exact small_pose (by decide) h1 h2
  · obtain ⟨m, _, rfl⟩ := List.mem_map.mp hk
    rw [depth_pose]
    decide
  · obtain ⟨m, _, rfl⟩ := List.mem_map.mp hk
    simp [poseK, NestedKey.data, NestedKey.datas, PyData.bulk, PyData.bulkAll]
  · rw [List.length_map]
    have := mots_len L
    have := h.1
    omega
theorem foldl_ins_len : ∀ (l acc : List NestedKey), (l.foldl ins acc).length ≤ acc.length + l.length
  | [], acc => Nat.le_refl _
  | x :: l, acc => by
    have h := foldl_ins_len l (ins acc x)
    have h2 : (ins acc x).length ≤ acc.length + 1 := by
      unfold ins
      split
      · omega
      · rw [List.length_append, List.length_singleton]
        exact Nat.le_refl _
    rw [List.length_cons]
    show (l.foldl ins (ins acc x)).length ≤ _
    omega
theorem mem_setsK {L : Lay} {k : NestedKey} (h : k ∈ setsK L) : ∃ q ∈ numd 0 L, k = gK (grp L q.2) := by
  unfold setsK at h
  rw [mem_ksort] at h
  rcases ((foldl_ins ((numd 0 L).map fun q : Piece × Nat => gK (grp L q.2)) [] List.nodup_nil).2 k).mp h with h | h
  · cases h
  · obtain ⟨q, hq, rfl⟩ := List.mem_map.mp h
    exact ⟨q, hq, rfl⟩
theorem shows_sets {L : Lay} (h : LayB 50 L) : Shows (.tup (setsK L)) := by
  have hL := h.1
  refine shows_tup (fun k hk => ?_) (fun k hk => ?_) (fun k hk => ?_) ?_
  · obtain ⟨q, _, rfl⟩ := mem_setsK hk
    show smalls _ = true
    refine smalls_iff.mpr fun k hk => ?_
    obtain ⟨j, hj, rfl⟩ := List.mem_map.mp hk
    have : j < L.length := by
      obtain ⟨m, _, _, q', _, h2, _⟩ := mem_grp.mp hj
      exact numd_lt h2
    simp only [small, decide_eq_true_eq]
    omega
  · obtain ⟨q, _, rfl⟩ := mem_setsK hk
    have := gK_ddepth (grp L q.2)
    omega
  · obtain ⟨q, _, rfl⟩ := mem_setsK hk
    have h1 := bulk_tup (m := 0) (ks := (grp L q.2).map fun n : Nat => .num (n : Int)) fun k hk => by
      obtain ⟨j, _, rfl⟩ := List.mem_map.mp hk
      simp [NestedKey.data, PyData.bulk]
    have h2 := grp_len L q.2
    rw [List.length_map] at h1
    show (gK (grp L q.2)).data.bulk ≤ 100
    unfold gK
    omega
  · unfold setsK dedup
    rw [ksort_len]
    have h1 := foldl_ins_len ((numd 0 L).map fun q => gK (grp L q.2)) []
    rw [List.length_map] at h1
    simp only [List.length_nil] at h1
    have := numd_len 0 L
    omega
/-! ### the groups -/
theorem mem_putK {κ : Type} [DecidableEq κ] {kvs : List (κ × V)} {k : κ} {v : V} {x : κ × V} (h : x ∈ putK kvs k v) : x = (k, v) ∨ (x ∈ kvs ∧ x.1 ≠ k) := by
  unfold putK at h
  split at h
  · obtain ⟨y, hy, e⟩ := List.mem_map.mp h
    by_cases hk : y.1 = k
    · rw [if_pos hk] at e
      subst e
      exact .inl (by rw [hk])
    · rw [if_neg hk] at e
      subst e
      exact .inr ⟨hy, hk⟩
  · rename_i hn
    rcases List.mem_append.mp h with h | h
    · refine .inr ⟨h, fun e => hn ?_⟩
      rw [List.any_eq_true]
      exact ⟨x, h, decide_eq_true e⟩
    · exact .inl (List.mem_singleton.mp h)
theorem keys_putK {κ : Type} [DecidableEq κ] {kvs : List (κ × V)} {k : κ} {v : V} : (putK kvs k v).map (·.1) = ins (kvs.map (·.1)) k := by
  unfold putK ins
  by_cases h : k ∈ kvs.map (·.1)
  · rw [if_pos h, if_pos]
    · rw [List.map_map]
      refine List.map_congr_left fun x _ => ?_
      show (if x.1 = k then (x.1, v) else x).1 = x.1
      split <;> rfl
    · obtain ⟨x, hx, e⟩ := List.mem_map.mp h
      rw [List.any_eq_true]
      exact ⟨x, hx, decide_eq_true e⟩
  · rw [if_neg h, if_neg]
    · rw [List.map_append]
      rfl
    · rw [List.any_eq_true]
      rintro ⟨x, hx, e⟩
      exact h (List.mem_map.mpr ⟨x, hx, of_decide_eq_true e⟩)
theorem put_self {κ : Type} [DecidableEq κ] {kvs : List (κ × V)} {k : κ} {v : V} : (k, v) ∈ putK kvs k v := by
  unfold putK
  split
  · rename_i h
    obtain ⟨x, hx, e⟩ := List.any_eq_true.mp h
    have e := of_decide_eq_true e
    refine List.mem_map.mpr ⟨x, hx, ?_⟩
    rw [if_pos e, e]
  · exact List.mem_append.mpr (.inr List.mem_cons_self)
theorem valV_some {κ : Type} [DecidableEq κ] : ∀ {kvs : List (κ × V)} {k : κ} {v : V}, valV kvs k = some v → (k, v) ∈ kvs
  | [], _, _, h => by cases h
  | p :: r, k, v, h => by
    by_cases e : p.1 = k
    · rw [valV_pos e] at h
      cases h
      rw [← e]
      exact List.mem_cons_self
    · rw [valV_neg e] at h
      exact List.mem_cons_of_mem _ (valV_some h)
/-- the law's dict: number to a list of own numbers -/
structure GL (L : Lay) (H : Hp) (g : Addr) (W : Nat → Nat → Prop) (kvs : List (L2.Key × V)) (ns : List Nat) (c : Nat) : Prop where
  at_ : H g = some (.dK kvs)
  keys : kvs.map (·.1) = ns.map fun n : Nat => (Sum.inl (n : Int) : L2.Key)
  nod : ns.Nodup
  low : ∀ n ∈ ns, n < L.length
  has : ∀ n j, W n j → n ∈ ns
  val : ∀ n ∈ ns, ∃ (a : Addr) (l : List Nat), valV kvs (Sum.inl (n : Int)) = some (.ref a) ∧ a ≠ g ∧ H a = some (.lst (l.map fun j : Nat => V.int (j : Int))) ∧ (∀ j, j ∈ l ↔ W n j) ∧ l ≠ [] ∧ l.length ≤ c
theorem GL.len {L : Lay} {H : Hp} {g : Addr} {W : Nat → Nat → Prop} {kvs : List (L2.Key × V)} {ns : List Nat} {c : Nat} (h : GL L H g W kvs ns c) : kvs.length ≤ L.length := by
  have e := congrArg List.length h.keys
  rw [List.length_map, List.length_map] at e
  have := List.Nodup.length_le_of_subset h.nod (l₂ := List.range L.length) fun x hx => List.mem_range.mpr (h.low x hx)
  rw [List.length_range] at this
  omega
theorem GL.ex {L : Lay} {H H' : Hp} {g : Addr} {W : Nat → Nat → Prop} {kvs : List (L2.Key × V)} {ns : List Nat} {c : Nat} (h : GL L H g W kvs ns c) (e : Ex H H') : GL L H' g W kvs ns c :=
  ⟨e _ _ h.at_, h.keys, h.nod, h.low, h.has, fun n hn => let ⟨a, l, h1, h2, h3, h4⟩ := h.val n hn; ⟨a, l, h1, h2, e _ _ h3, h4⟩⟩
theorem GL.iff {L : Lay} {H : Hp} {g : Addr} {W W' : Nat → Nat → Prop} {kvs : List (L2.Key × V)} {ns : List Nat} {c : Nat} (h : GL L H g W kvs ns c) (e : ∀ n j, W n j ↔ W' n j) : GL L H g W' kvs ns c :=
  ⟨h.at_, h.keys, h.nod, h.low, fun n j w => h.has n j ((e n j).mpr w), fun n hn => let ⟨a, l, h1, h2, h3, h4, h5⟩ := h.val n hn; ⟨a, l, h1, h2, h3, fun j => (h4 j).trans (e n j), h5⟩⟩
theorem GL.nil {L : Lay} {H : Hp} {g : Addr} (h : H g = some (.dK [])) : GL L H g (fun _ _ => False) [] [] 0 :=
  ⟨h, rfl, List.nodup_nil, fun _ z => (nomatch z), fun _ _ z => z.elim, fun _ z => (nomatch z)⟩
theorem GL.mono {L : Lay} {H : Hp} {g : Addr} {W : Nat → Nat → Prop} {kvs : List (L2.Key × V)} {ns : List Nat} {c c' : Nat} (h : GL L H g W kvs ns c) (hc : c ≤ c') : GL L H g W kvs ns c' :=
  ⟨h.at_, h.keys, h.nod, h.low, h.has, fun n hn => let ⟨a, l, h1, h2, h3, h4, h5, h6⟩ := h.val n hn; ⟨a, l, h1, h2, h3, h4, h5, by omega⟩⟩
theorem inlMem {ns : List Nat} {n : Nat} : (Sum.inl (n : Int) : L2.Key) ∈ ns.map (fun n : Nat => (Sum.inl (n : Int) : L2.Key)) ↔ n ∈ ns := by
  rw [List.mem_map]
  constructor
  · rintro ⟨x, hx, e⟩
    injection e with e
    have : x = n := by omega
    exact this ▸ hx
  · intro h
    exact ⟨n, h, rfl⟩
/-- one more: the new list at e -/
theorem GL.put {L : Lay} {H : Hp} {g e : Addr} {W : Nat → Nat → Prop} {kvs : List (L2.Key × V)} {ns : List Nat} {c : Nat} (h : GL L H g W kvs ns c) {n j : Nat} (hn : n < L.length) {l : List Nat} (he : H e = some (.lst (l.map fun j : Nat => V.int (j : Int)))) (hl : ∀ i, i ∈ l ↔ W n i ∨ i = j) (hc : l.length ≤ c + 1) :
    GL L (upd H g (.dK (putK kvs (Sum.inl (n : Int)) (.ref e)))) g (fun a b => W a b ∨ (a = n ∧ b = j)) (putK kvs (Sum.inl (n : Int)) (.ref e)) (ins ns n) (c + 1) := by
  have eg : e ≠ g := fun z => by rw [z, h.at_] at he; cases he
  have hk : (putK kvs (Sum.inl (n : Int)) (.ref e)).map (·.1) = (ins ns n).map fun n : Nat => (Sum.inl (n : Int) : L2.Key) := by
    rw [keys_putK, h.keys]
    unfold ins
    by_cases hm : n ∈ ns
    · rw [if_pos hm, if_pos (inlMem.mpr hm)]
    · rw [if_neg hm, if_neg fun z => hm (inlMem.mp z), List.map_append]
      rfl
  have nodk : ((putK kvs (Sum.inl (n : Int)) (.ref e)).map (·.1)).Nodup := by
    rw [hk]
    exact inl_nodup (nodup_ins h.nod)
  refine ⟨upd_same, hk, nodup_ins h.nod, fun a ha => ?_, fun a b w => ?_, fun a ha => ?_⟩
  · rcases mem_ins.mp ha with ha | rfl
    · exact h.low a ha
    · exact hn
  · rcases w with w | ⟨rfl, _⟩
    · exact mem_ins.mpr (.inl (h.has a b w))
    · exact mem_ins.mpr (.inr rfl)
  · by_cases han : a = n
    · subst han
      refine ⟨e, l, valV_mem nodk put_self, eg, by rw [upd_ne eg]; exact he, fun i => ?_, fun z => ?_, hc⟩
      · rw [hl]
        simp
      · have := (hl j).mpr (.inr rfl)
        rw [z] at this
        cases this
    · have ha2 : a ∈ ns := by
        rcases mem_ins.mp ha with h1 | h1
        · exact h1
        · exact absurd h1 han
      obtain ⟨b, m, h1, h2, h3, h4, h5, h6⟩ := h.val a ha2
      have hmem := valV_some h1
      have hne : (Sum.inl (a : Int) : L2.Key) ≠ Sum.inl (n : Int) := fun z => han (by injection z with z; omega)
      refine ⟨b, m, ?_, h2, by rw [upd_ne h2]; exact h3, fun i => ?_, h5, by omega⟩
      · refine valV_mem nodk ?_
        unfold putK
        split
        · refine List.mem_map.mpr ⟨_, hmem, ?_⟩
          rw [if_neg hne]
        · exact List.mem_append.mpr (.inl hmem)
      · rw [h4]
        simp [han]
theorem inV_nat {k : Nat} : ∀ {l : List Nat}, inV (.int (k : Int)) (l.map fun j : Nat => V.int (j : Int)) = decide (k ∈ l)
  | [] => rfl
  | x :: l => by
    have ih := inV_nat (k := k) (l := l)
    unfold inV at *
    rw [List.map_cons, List.any_cons, ih]
    rw [Bool.eq_iff_iff]
    simp only [Bool.or_eq_true, decide_eq_true_eq, List.mem_cons]
    have e1 : eqV (.int (x : Int)) (.int (k : Int)) = true ↔ k = x := by
      simp only [eqV, beq_iff_eq, decide_eq_true_eq]
      omega
    rw [e1]
/-- the k-th of both sorted lists: the pair -/
def ZP (L : Lay) (m : P5) (t n j : Nat) : Prop := ∃ s s', (ksort (pairsK m L))[t]? = some (pairK s n) ∧ (ksort (pairsK home L))[t]? = some (pairK s' j)
theorem zp_one {L : Lay} {m : P5} {t n j n' j' : Nat} (h : ZP L m t n j) (g : ZP L m t n' j') : n = n' ∧ j = j' := by
  obtain ⟨s, s', h1, h2⟩ := h
  obtain ⟨r, r', g1, g2⟩ := g
  rw [h1] at g1
  rw [h2] at g2
  simp only [Option.some.injEq, pairK, NestedKey.tup.injEq, List.cons.injEq, NestedKey.num.injEq, and_true] at g1 g2
  exact ⟨by omega, by omega⟩
theorem pairs_len (m : P5) (L : Lay) : (ksort (pairsK m L)).length = (numd 0 L).length := by
  rw [ksort_len]
  unfold pairsK shapesL
  rw [List.length_map, List.length_map]
theorem zp_at {L : Lay} (m : P5) {t : Nat} (ht : t < (numd 0 L).length) : ∃ n j, ZP L m t n j ∧ n < L.length := by
  have h1 : t < (ksort (pairsK m L)).length := by rw [pairs_len]; exact ht
  have h2 : t < (ksort (pairsK home L)).length := by rw [pairs_len]; exact ht
  obtain ⟨p, n, hp, e1⟩ := pairs_form (mem_ksort.mp (List.getElem_mem h1))
  obtain ⟨q, j, hq, e2⟩ := pairs_form (mem_ksort.mp (List.getElem_mem h2))
  exact ⟨n, j, ⟨_, _, by rw [List.getElem?_eq_getElem h1, e1], by rw [List.getElem?_eq_getElem h2, e2]⟩, numd_lt hp⟩
theorem zp_pr {L : Lay} (hF : Free L) {m : P5} (hm : isMot L m) (n j : Nat) : (∃ t, t < (numd 0 L).length ∧ ZP L m t n j) ↔ PR L m n j := by
  have hk : (ksort (pairsK m L)).map fstK = (ksort (pairsK home L)).map fstK := by
    rw [pairs_fst, pairs_fst]
    exact hm
  have same : ∀ (t : Nat) (s s' : NestedKey) (n j : Nat), (ksort (pairsK m L))[t]? = some (pairK s n) → (ksort (pairsK home L))[t]? = some (pairK s' j) → s = s' := fun t s s' n j h1 h2 => by
    have q1 : ((ksort (pairsK m L)).map fstK)[t]? = some s := by rw [List.getElem?_map, h1]; rfl
    have q2 : ((ksort (pairsK home L)).map fstK)[t]? = some s' := by rw [List.getElem?_map, h2]; rfl
    rw [hk, q2] at q1
    exact (Option.some.inj q1).symm
  have pinj : ∀ {s s' : NestedKey} {a b : Nat}, pairK s a = pairK s' b → s = s' ∧ a = b := fun {s s' a b} e => by
    simp only [pairK, NestedKey.tup.injEq, List.cons.injEq, NestedKey.num.injEq, and_true] at e
    exact ⟨e.1, by omega⟩
  constructor
  · rintro ⟨t, ht, s, s', h1, h2⟩
    have e := same t s s' n j h1 h2
    subst e
    obtain ⟨p, n', hp, e1⟩ := pairs_form (mem_ksort.mp (List.mem_of_getElem? h1))
    obtain ⟨q, j', hq, e2⟩ := pairs_form (mem_ksort.mp (List.mem_of_getElem? h2))
    obtain ⟨e3, rfl⟩ := pinj e1
    obtain ⟨e4, rfl⟩ := pinj e2
    exact ⟨p, q, hp, hq, e3.symm.trans e4⟩
  · rintro ⟨p, q, hp, hq, e⟩
    have hmem : pairK (shapeK m p) n ∈ ksort (pairsK m L) := by
      rw [mem_ksort]
      unfold pairsK shapesL
      rw [List.map_map]
      exact List.mem_map.mpr ⟨(p, n), hp, rfl⟩
    obtain ⟨t, ht⟩ := List.getElem?_of_mem hmem
    have hlt : t < (numd 0 L).length := by rw [← pairs_len m L]; exact (List.getElem?_eq_some_iff.mp ht).1
    obtain ⟨n', j', ⟨s, s', h1, h2⟩, _⟩ := zp_at m hlt
    have e0 := ht.symm.trans h1
    obtain ⟨e1, rfl⟩ := pinj (Option.some.inj e0)
    have e2 := same t s s' _ _ h1 h2
    subst e1 e2
    obtain ⟨q', j'', hq', e3⟩ := pairs_form (mem_ksort.mp (List.mem_of_getElem? h2))
    obtain ⟨e4, rfl⟩ := pinj e3
    have := shape_one hF hq' hq (e4.symm.trans e)
    subst this
    exact ⟨t, hlt, _, _, h1, h2⟩
end Mk
set_option Elab.async false
set_option linter.all false
set_option maxRecDepth 100000
set_option maxHeartbeats 1000000
/-! the law -/
namespace Mk
open PySem PySem.Spec PyProof.Rows L2 Evl
theorem filter_map2 {α : Type} {l : List α} {d : α} {p : α → Bool} {f : α → NestedKey} : keptK l.length (fun i => p (l.getD i d)) (fun i => f (l.getD i d)) = (l.filter p).map f := by
  unfold keptK
  have h : (List.range l.length).map (fun i => l.getD i d) = l := by
    have := range_getD (l := l) (d := d) (f := fun x => x)
    rw [List.map_id'] at this
    exact this
  have h2 : (l.filter p).map f = (((List.range l.length).map (fun i => l.getD i d)).filter p).map f := by rw [h]
  rw [h2, List.filter_map, List.map_map]
  rfl
theorem pcs_filter : ∀ L : Lay, (L.filter fun o => !decide (itemK o = .none)).map itemK = (pcs L).map pieceK
  | [] => rfl
  | none :: L => by
    have e : (!decide (itemK none = NestedKey.none)) = false := by simp [itemK]
    rw [List.filter_cons, e]
    exact pcs_filter L
  | some p :: L => by
    have e : (!decide (itemK (some p) = NestedKey.none)) = true := by simp [itemK, pieceK]
    rw [List.filter_cons, e]
    show itemK (some p) :: (L.filter fun o => !decide (itemK o = .none)).map itemK = pieceK p :: (pcs L).map pieceK
    rw [pcs_filter L]
    rfl
theorem numd_nil {L : Lay} (h : allT (numd 0 L) = []) : numd 0 L = [] := by
  cases hn : numd 0 L with
  | nil => rfl
  | cons x q =>
    rw [hn] at h
    have h2 : endT x.2 (endsOf x.1.1 x.1.2) ++ allT q = [] := h
    have h3 := (List.append_eq_nil_iff.mp h2).1
    unfold endT endsOf at h3
    simp at h3
theorem grp_eq {L : Lay} {n : Nat} {l : List Nat} (h : ∀ j, j ∈ l ↔ linked L n j) : ((List.range L.length).filter fun k => decide (k ∈ l)).map (fun k : Nat => NestedKey.num (k : Int)) = (grp L n).map fun k : Nat => NestedKey.num (k : Int) := by
  congr 1
  refine asc_eq (List.Pairwise.filter _ List.pairwise_lt_range) (grp_pw L n) fun j => ?_
  rw [mem_grp, List.mem_filter, List.mem_range, decide_eq_true_eq, h]
  refine ⟨fun z => z.2, fun z => ⟨?_, z⟩⟩
  obtain ⟨_, _, _, q, _, h2, _⟩ := z
  exact numd_lt h2
theorem gK_nice (l : List Nat) : Nice (gK l) := nice_tup fun k hk => by
  obtain ⟨j, _, rfl⟩ := List.mem_map.mp hk
  simp [NestedKey.data, PyData.canLay0, PyData.depth]
/-- the digits' list -/
def dDig : Ds tx := ⟨fun H v => ∃ (a : Addr) (ns : List Int), v = .ref a ∧ H a = some (.lst (ns.map V.int)), fun e ⟨a, ns, h1, h2⟩ => ⟨a, ns, h1, e _ _ h2⟩⟩
section
variable {R : Tr} {K : PySem.W.Frag} {σ : L2.St} {H : Hp} {ta tb te : TE} {E : XK} {D : Ends} {tu tw tz : TS} {t : L2.TT}
theorem el_lstG {ds : List (Ds R)} {tas : TA} (hl : ds.length ≤ 100) (h : EA R tas σ H ds) : EL R (tLst tas) σ H (DA ds) := fun H1 e Q q =>
  h H1 e _ fun vs H2 e2 da => ⟨by rw [da.len]; exact sz5 (by omega), fun l hl => q l vs _ (R.fresh e2 hl) (R.trans e2 (R.ex (Ex.new hl))) upd_same (DA.mono (R.ex (Ex.new hl)) da)⟩
theorem et_B {b : Bool} (h : ED R te σ H (dV R (.bl b))) : ET R (L2.tB te) σ H b := fun H1 e _ q => h H1 e _ fun v H2 e2 p => ⟨b, p, q H2 e2⟩
theorem ed_andV (h1 : ED R ta σ H (dV R (.bl true))) (h2 : ED R tb σ H (dV R (.bl true))) : ED R (tAndV ta tb) σ H (dV R (.bl true)) := fun H1 e Q q => h1 H1 e _ fun v H2 e2 p => ⟨true, p, h2 H2 (R.trans e e2) Q fun w H3 e3 p3 => q w H3 (R.trans e2 e3) p3⟩
theorem ed_same {k : NestedKey} (hs : Shows k) (ha : ED R ta σ H (dK R K k)) (hb : ED R tb σ H (dK R K k)) : ED R (tCall (spSame K) [] E (tCons ta (tCons tb tNil))) σ H (dV R (.bl true)) :=
  ed_call (ds := [dK R K k, dK R K k]) (ea_cons ha (ea_one hb)) fun vs H1 _ p Q q => ⟨k, da_tks (ks := [k, k]) p, hs, fun H' e => q _ H' (R.ex e) rfl⟩
/-- len of a new list -/
theorem ed_lenE (r : List V → Hp → VK → Prop) (hr : ∀ xs H Q, (∃ p ys, xs = [.ref p] ∧ (SqL K H p ys ∨ SqT K H p ys) ∧ Q (.int ys.length) H) → r xs H Q) {P : Hp → List V → Prop} {n : Nat} (hn : ∀ H xs, P H xs → xs.length = n) (h : EL R te σ H P) : ED R (tCB r (tCons te tNil)) σ H (dK R K (.num (n : Int))) := fun H1 e Q q =>
  h H1 e _ fun p xs H2 hp e2 hx ht => hr _ _ _ ⟨p, xs, rfl, .inl (.inl (.inl hx)), q _ H2 e2 (by rw [hn _ _ ht]; exact mN)⟩
theorem ed_pickV {b dg a : Addr} {ns : List Int} {n m : Nat} {xs : List V} {d : Ds (tB b dg ns)} (hs : σ[n]? = some (some (.ref b))) (hs2 : σ[m]? = some (some (.ref a))) (hb : Bx b dg ns H) (ha : H a = some (.lst xs)) (hne : xs ≠ []) (nab : a ≠ b) (hd : ∀ x ∈ xs, d.p H x) : ED (tB b dg ns) (tCall (spPick K) [] E (tCons (tVar n) (tCons (tVar m) tNil))) σ H d := fun H1 e Q q =>
  ⟨.ref b, hs, .ref a, hs2, b, dg, ns, a, xs, rfl, (tB b dg ns).keep e nab ha, nab, hne, e.2 hb, fun v H' hv r => q v H' r (d.mono r (d.mono e (hd v hv)))⟩
theorem el_layout {b dg : Addr} {ns : List Int} {n : Nat} (hs : σ[n]? = some (some (.ref b))) (hb : Bx b dg ns H) : EL (tB b dg ns) (tCall (spLayout K) [] E (tCons (tVar n) tNil)) σ H (PL K 50) := fun H1 e Q q =>
  ⟨.ref b, hs, b, dg, ns, rfl, e.2 hb, fun r xs H' hr e2 hx hp => q r xs H' hr e2 hx hp⟩
end
theorem tE_updD {g : Addr} {H H' : Hp} {kvs jvs : List (L2.Key × V)} (e : (tE g).r H H') (h : H' g = some (.dK kvs)) : (tE g).r H (upd H' g (.dK jvs)) :=
  ⟨fun a o n q => by rw [upd_ne n]; exact e.1 a o n q, TSt.upd e.2.1 fun xs q => (by rw [h] at q; cases q), fun a q => by
    by_cases z : a = g
    · subst z; rw [upd_same] at q; cases q
    · rw [upd_ne z] at q; exact e.2.2 a q⟩
section
variable {P : Program} {w : World} {K : PySem.W.Frag} {mg : Str → Option Value} {base : Heap} {d : Da}
def spLaw (K : PySem.W.Frag) : Sp := fun vs H Q _ => ∃ (a : Addr) (ns : List Int), vs = [.ref a] ∧ SqL K H a (ns.map V.int) ∧ ns.length ≤ 63 ∧ ∀ H', Q (.bl true) H'
theorem ok_law (T : Tx w K mg d) : GOk P w K mg base CX0 10 (d.f 33) (d.fd 33) ["_law_script"] (spLaw K) := by
  have nd := sc_law.nd
  refine gok_fun T.law.fn sc_law (fun vs H Q E h => ?_) (fun cdv A outer s H vs Q E gd hr h => ?_)
  · obtain ⟨_, _, rfl, _⟩ := h
    rfl
  obtain ⟨a0, ns0, rfl, hS, _, q⟩ := h
  refine ⟨_, (pss_cons (ps_set (i := 1) nd rfl (.inl rfl) (pe_lst (pa_cons (pc T._law_digits (ok__law_digits T) (hr.mono (by decide)) (pa_cons (pv 0) (pa_cons pe_int (pa_cons pe_int pa_nil)))) (pa_cons pe_int pa_nil))))
      (pss_cons (ps_set (i := 2) nd rfl (.inl rfl) (pc T._law_layout (ok__law_layout T) (hr.mono (by decide)) (pa_cons (pv 1) pa_nil)))
      (pss_cons (ps_if (pt_not (pt_val (pc T._law_is_free (ok__law_is_free T) (hr.mono (by decide)) (pa_cons (pe_lst pa_nil) (pa_cons (pe_lc (own := [("_law_piece", 15)]) (g := gName 15) rfl nd (pi_list (pv 2)) (blkOk_by (N := ["_law_script", "_law_box", "_law_layout_here", "_law_told", "_law_due", "_law_one", "_law_other", "_law_own", "_law_groups", "_law_motion", "_law_sets", "_law_number", "_law_row", "_law_k", "_law_group", "_law_piece"]) (sc := defScope s_law) (by decide +kernel)) (fun _ _ _ _ _ => (pg_name (i := 15) nd rfl (.inl rfl) (.inr rfl))) (fun _ _ _ _ _ => (pts_one (pt_cmpR op_notN1 (pv 15) pe_non (nomark _)))) (fun _ _ _ _ _ => (pv 15))) pa_nil))))) (pss_one (ps_ret pe_bl)) pss_nil)
      (pss_cons (ps_set (i := 3) nd rfl (.inl rfl) (pc T.motions (ok_motions T) (hr.mono (by decide)) (pa_cons (pe_callTy call_tuple_of (by rfl) T.tuple PyProof.Rows.boot_tuple (pa_cons (pv 2) pa_nil)) pa_nil)))
      (pss_cons (ps_if (pt_cmpR op_eq (pe_callB call_len_seq (by rfl) T.len PySem.boot_len (pa_cons (pc T._law_all_ends (ok__law_all_ends T) (hr.mono (by decide)) (pa_cons (pv 2) pa_nil)) pa_nil)) pe_int (nomark _)) (pss_one (ps_ret (pe_and (pe_callG (ok__law_same T) gd (hr.mono (by decide)) (by rfl) T._law_same.gl T._law_same.fn.kp T._law_same.bd pass0 (pa_cons (pv 3) (pa_cons (pe_tup pa_nil) pa_nil))) (pe_one (pe_callG (ok__law_same T) gd (hr.mono (by decide)) (by rfl) T._law_same.gl T._law_same.fn.kp T._law_same.bd pass0 (pa_cons (pc T.alike (ok_alike T) (hr.mono (by decide)) (pa_cons (pe_callTy call_tuple_of (by rfl) T.tuple PyProof.Rows.boot_tuple (pa_cons (pv 2) pa_nil)) pa_nil)) (pa_cons (pe_tup pa_nil) pa_nil))))))) pss_nil)
      (pss_cons (ps_set (i := 4) nd rfl (.inl rfl) (pc T._law_motions (ok__law_motions T) (hr.mono (by decide)) (pa_cons (pv 2) pa_nil)))
      (pss_cons (ps_if (pw_or (pt_not (pt_val (pe_callG (ok__law_same T) gd (hr.mono (by decide)) (by rfl) T._law_same.gl T._law_same.fn.kp T._law_same.bd pass0 (pa_cons (pv 3) (pa_cons (pe_callTy call_tuple_of (by rfl) T.tuple PyProof.Rows.boot_tuple (pa_cons (pv 4) pa_nil)) pa_nil))))) (pw_or1 (pt_cmpR (op_notInD (hu65 hr)) (pc0 T._law_home (ok__law_home T) (hr.mono (by decide))) (pv 4) (by rfl)))).pt (pss_one (ps_ret pe_bl)) pss_nil)
      (pss_cons (ps_set (i := 5) nd rfl (.inl rfl) (pc T._law_pick (ok__law_pick T) (hr.mono (by decide)) (pa_cons (pv 1) (pa_cons (pv 4) pa_nil))))
      (pss_cons (ps_set (i := 6) nd rfl (.inl rfl) (pc T._law_pick (ok__law_pick T) (hr.mono (by decide)) (pa_cons (pv 1) (pa_cons (pv 4) pa_nil))))
      (pss_cons (ps_if (pt_cmpR (op_notInD (hu65 hr)) (pc T._law_laid (ok__law_laid T) (hr.mono (by decide)) (pa_cons (pv 5) (pa_cons (pv 6) pa_nil))) (pv 4) (by rfl)) (pss_one (ps_ret pe_bl)) pss_nil)
      (pss_cons (ps_set (i := 7) nd rfl (.inl rfl) (pc T._law_shapes (ok__law_shapes T) (hr.mono (by decide)) (pa_cons (pv 2) (pa_cons (pc0 T._law_home (ok__law_home T) (hr.mono (by decide))) pa_nil))))
      (pss_cons (ps_set (i := 8) nd rfl (.inr rfl) pe_dnewK)
      (pss_cons (ps_for PassesOwn.never rfl (pi_list (pv 4)) (pg_name (i := 9) nd rfl (.inl rfl)) (pss_cons (ps_set (i := 12) nd rfl (.inl rfl) (pc T._law_shapes (ok__law_shapes T) (hr.mono (by decide)) (pa_cons (pv 2) (pa_cons (pv 9) pa_nil))))
      (pss_one (ps_for PassesOwn.never rfl (pi_range1 (by rfl) T.range (pa_cons (pe_callB call_len_seq (by rfl) T.len PySem.boot_len (pa_cons (pv 7) pa_nil)) pa_nil)) (pg_name (i := 13) nd rfl (.inl rfl)) (pss_one (ps_dput (hu_of hr) (pv 8) (pe_ix ix_seq (pe_ix ix_seq (pv 12) (pv 13) (fun _ _ => rfl)) pe_int (fun _ _ => rfl)) (pe_op op_cat (pe_dget2 (hu_of hr) (pv 8) (pe_ix ix_seq (pe_ix ix_seq (pv 12) (pv 13) (fun _ _ => rfl)) pe_int (fun _ _ => rfl)) (pe_lst pa_nil) ⟨by rfl, by rfl, by rfl, by rfl⟩) (pe_lst (pa_cons (pe_ix ix_seq (pe_ix ix_seq (pv 7) (pv 13) (fun _ _ => rfl)) pe_int (fun _ _ => rfl)) pa_nil))) rfl))))))
      (pss_cons (ps_set (i := 10) nd rfl (.inl rfl) (pe_lst pa_nil))
      (pss_cons (ps_for PassesOwn.never rfl (pi_list (pe_callTy (call_listD rfl) (by rfl) T.list PyProof.Rows.boot_list (pa_cons (pv 8) pa_nil))) (pg_name (i := 11) nd rfl (.inr rfl)) (pss_cons (ps_set (i := 14) nd rfl (.inl rfl) (pe_callTy call_tuple_of (by rfl) T.tuple PyProof.Rows.boot_tuple (pa_cons (pe_lc (own := [("_law_k", 13)]) (g := gName 13) rfl nd (pi_range1 (by rfl) T.range (pa_cons (pe_callB call_len_seq (by rfl) T.len PySem.boot_len (pa_cons (pv 2) pa_nil)) pa_nil)) (blkOk_by (N := ["_law_script", "_law_box", "_law_layout_here", "_law_told", "_law_due", "_law_one", "_law_other", "_law_own", "_law_groups", "_law_motion", "_law_sets", "_law_number", "_law_row", "_law_k", "_law_group", "_law_piece"]) (sc := defScope s_law) (by decide +kernel)) (fun _ _ _ _ _ => (pg_name (i := 13) nd rfl (.inl rfl) (.inr rfl))) (fun _ _ _ _ _ => (pts_one (pt_cmpR (r := rIn K false) op_in_seq (pv 13) (pe_dget (hu_of hr) (pv 8) (pv 11) (fun _ _ => rfl)) (by rfl)))) (fun _ _ _ _ _ => (pv 13))) pa_nil)))
      (pss_one (ps_if (pt_cmpR (op_notInD (hu65 hr)) (pv 14) (pv 10) (by rfl)) (pss_one (ps_expr (pe_bm PySem.F.plainAttrs_list PySem.F.slot_list_append PySem.F.type_list_append mt_append (pv 10) (pa_cons (pv 14) pa_nil)))) pss_nil))))
      (pss_one (ps_ret (pe_callG (ok__law_same T) gd (hr.mono (by decide)) (by rfl) T._law_same.gl T._law_same.fn.kp T._law_same.bd pass0 (pa_cons (pc T.alike (ok_alike T) (hr.mono (by decide)) (pa_cons (pe_callTy call_tuple_of (by rfl) T.tuple PyProof.Rows.boot_tuple (pa_cons (pv 2) pa_nil)) pa_nil)) (pa_cons (pe_callTy call_tuple_of (by rfl) T.tuple PyProof.Rows.boot_tuple (pa_cons (pe_callB (cr_sortN hr.units) (by rfl) T.sorted PyProof.Rows.boot_sorted (pa_cons (pv 10) pa_nil)) pa_nil)) pa_nil)))))))))))))))))))), ?_⟩
  -- the box
  refine a_setL (R := tx) (el_lstG (ds := [dDig, dK tx K (.num 0)]) (by show 2 ≤ 100; decide) (ea_cons (ed_call (ds := [dL tx K (ns0.map NestedKey.num), dK tx K (.num 0), dK tx K (.num 60)]) (ea_cons (ed_v (v := .ref a0) rfl ⟨a0, ns0.map V.int, rfl, trivial, hS, Tks.ints ns0⟩) (ea_cons ed_int (ea_one ed_int))) fun vs H1 _ p Q1 k1 => ⟨ns0, p, fun ms r H' hr e hx => k1 _ H' e ⟨r, ms, rfl, hx⟩⟩) (ea_one ed_int))) fun b xb H1 hb1 e1 hxb hda => ?_
  obtain ⟨_, _, rfl, ⟨dg, ns, rfl, hdg⟩, hda⟩ := hda
  obtain ⟨_, rfl, h0⟩ := da1 hda
  have h0 := pN h0
  subst h0
  have hB : Bx b dg ns H1 := ⟨⟨0, Int.le_refl _, hxb⟩, hdg, fun z => by
    subst z
    rw [hxb] at hdg
    have := HO.lst.inj (Option.some.inj hdg)
    cases ns with
    | nil => cases this
    | cons y r => simp at this⟩
  -- the layout
  refine a_setL (R := tB b dg ns) (el_layout rfl hB) fun r xs H2 hr2 r2 hx2 hp2 => ?_
  obtain ⟨L, hLB, htL⟩ := hp2
  have hLl := hLB.1
  have okr := bx_ok hB r hr2
  have hB2 := r2.2 hB
  show tSeq _ _ _ [some (.ref a0), some (.ref b), some (.ref r), none, none, none, none, none, none, none, none, none, none, none, none, none] H2
  -- what the layout reads as, later on
  have lay : ∀ {σ : L2.St} {H' : Hp}, σ[2]? = some (some (.ref r)) → (tB b dg ns).r H2 H' → ED tx (tVar 2) σ H' (dL tx K (L.map itemK)) := fun {σ H'} hs rr => ed_lst hs trivial ((tB b dg ns).keep rr okr hx2) (htL.to ((tB b dg ns).ts rr))
  -- is it free
  have hfree : ED tx (tCall (spIsFree K) [] E0 (tCons (tLst tNil) (tCons (tLc (iList K (tVar 2)) (gName 15) (tTest (tOp rNotN (tVar 15) (tC .non))) (tVar 15) [15]) tNil))) [some (.ref a0), some (.ref b), some (.ref r), none, none, none, none, none, none, none, none, none, none, none, none, none] H2 ⟨fun _ v => ∃ c : Bool, v = .bl c ∧ (c = true → Free L), fun _ h => h⟩ := by
    refine ed_call (ds := [dL tx K (([] : Lay).map itemK), dL tx K ((pcs L).map pieceK)]) (ea_cons (ED.of_new (el_lst [] ea_nil (by decide))) (ea_one (ED.of_new ?_))) fun vs H3 _ p Q1 k1 => ⟨[], pcs L, by decide, by have := pcs_len L; omega, p, fun c H4 e4 hc => k1 _ H4 e4 ⟨c, rfl, fun hct => hc hct List.nodup_nil⟩⟩
    rw [← pcs_filter, ← filter_map2 (d := none)]
    refine el_lc (K := K) (fun i => !decide (itemK (L.getD i none) = .none)) (fun i => itemK (L.getD i none)) (by have := ei_listV (Re := tx) (R := tx) (K := K) (n := 2) (a := r) (ks := L.map itemK) (σ := [some (.ref a0), some (.ref b), some (.ref r), none, none, none, none, none, none, none, none, none, none, none, none, none]) (H := H2) rfl (.inl (.inl hx2)) htL trivial trivial; rw [List.length_map] at this; exact this) (by omega) fun i v H3 hlt e3 hv Q1 k1 => ?_
    rw [getD_map (d := none) (f := itemK) hlt] at hv
    exact k1 _ _ rfl (Ex.refl _) (et_v (ed_notN (ed_key (n := 15) rfl hv) ed_non)) fun _ => ed_key (n := 15) rfl hv
  refine hfree H2 (Ex.refl H2) _ fun vf H3 e3 ⟨c, ec, hc⟩ => ⟨c, ec, ?_⟩
  have rr3 := (tB b dg ns).ex (H := H2) (H' := H3) e3
  cases c with
  | false => exact q H3
  | true =>
    have hF : Free L := hc rfl
    -- told
    refine a_set (R := tx) (d := dK tx K (.tup ((mots L).map poseK))) (ed_callK [.tup (L.map itemK)] ⟨L, hF, by omega, rfl, rfl⟩ (ea_one (ed_tupOfS _ (fun _ _ _ h => h) (ED.s_of_l (lay rfl rr3))))) fun vt H4 e4 hvt => ?_
    have rr4 := (tB b dg ns).trans rr3 ((tB b dg ns).ex e4)
    -- no ends
    refine a_ifS (R := tx) (et_v (ed_eqn (K := K) (i := ((allT (numd 0 L)).length : Int)) (j := 0) (ed_lenE _ (fun _ _ _ h => h) (fun H xs h => h.1) (el_allEnds (by omega) (lay rfl rr4))) ed_int)) (fun hb H5 e5 => ?_) (fun hb H5 e5 => ?_)
    · have h0 : allT (numd 0 L) = [] := by
        have := of_decide_eq_true hb
        exact List.length_eq_zero_iff.mp (by omega)
      have heps : eps L = [] := by rw [← allT_eps, h0]; rfl
      have hm : mots L = [] := by unfold mots; rw [heps]
      have hs : setsK L = [] := setsK_nil (numd_nil h0)
      have sh : Shows (.tup []) := shows_tup (fun k hk => nomatch hk) (fun k hk => nomatch hk) (fun k hk => nomatch hk) (by decide)
      rw [hm] at hvt
      have rr5 := (tB b dg ns).trans rr4 ((tB b dg ns).ex e5)
      refine a_ret (R := tx) (ed_andV (ed_same (K := K) sh (ed_key (n := 3) rfl (Tk.ex hvt e5)) (ed_tup [] ea_nil (by decide))) (ed_same (K := K) sh (ed_callK [.tup (L.map itemK)] ⟨L, hF, by omega, rfl, by rw [hs]⟩ (ea_one (ed_tupOfS _ (fun _ _ _ h => h) (ED.s_of_l (lay rfl rr5))))) (ed_tup [] ea_nil (by decide)))) fun v H6 e6 hv => ?_
      have hv : v = .bl true := hv
      subst hv
      exact q H6
    obtain ⟨e0, es, heps⟩ : ∃ e0 es, eps L = e0 :: es := by
      cases h : eps L with
      | cons e0 es => exact ⟨e0, es, rfl⟩
      | nil =>
        have h2 := of_decide_eq_false hb
        have h3 := congrArg List.length (allT_eps L)
        rw [h, List.length_map] at h3
        exact absurd (by rw [h3]; rfl) h2
    have rr5 := (tB b dg ns).trans rr4 ((tB b dg ns).ex e5)
    have ml := mots_len L
    -- due
    refine a_setL (R := tx) (el_motionsL (by omega) heps (lay rfl rr5)) fun du xd H6 hdu e6 hxd htd => ?_
    have rr6 := (tB b dg ns).trans rr5 ((tB b dg ns).ex e6)
    have hB5 := rr5.2 hB2
    have okd := bx_ok hB5 du hdu
    have hlxd : xd.length = (mots L).length := by rw [htd.len, List.length_map]
    have due : ∀ {σ : L2.St} {H' : Hp}, σ[4]? = some (some (.ref du)) → (tB b dg ns).r H6 H' → ED tx (tVar 4) σ H' (dL tx K ((mots L).map poseK)) := fun {σ H'} hs rr => ed_lst hs trivial ((tB b dg ns).keep rr okd hxd) (Tks.to htd ((tB b dg ns).ts rr))
    -- same, home
    have nices : ∀ k ∈ (mots L).map poseK, Nice k := fun k hk => by
      obtain ⟨p, _, rfl⟩ := List.mem_map.mp hk
      exact poseK_nice p
    refine a_ifS (R := tx) (et_or (et_not (et_B (ed_same (K := K) (shows_mots hLB) (ed_key (n := 3) rfl ((Tk.ex hvt e5).ex e6)) (ed_tupOfS _ (fun _ _ _ h => h) (ED.s_of_l (due rfl ((tB b dg ns).refl H6))))))) (et_v (ed_notInD (K := K) (k := poseK home) (poseK_nice _) nices (ed_callK [] ⟨rfl, rfl⟩ ea_nil) (due rfl ((tB b dg ns).refl H6))))) (fun hb H7 e7 => ?_) (fun _ H7 e7 => ?_)
    · rw [decide_eq_true (mem_poseKs.mpr (home_mots heps))] at hb
      cases hb
    have r67 := (tB b dg ns).ex (H := H6) e7
    show tSeq _ _ _ [some (.ref a0), some (.ref b), some (.ref r), some vt, some (.ref du), none, none, none, none, none, none, none, none, none, none, none] H7
    -- two motions
    have neD : xd ≠ [] := fun z => by
      have := home_mots heps
      rw [z] at hlxd
      have := List.length_pos_of_mem this
      simp at hlxd
      omega
    have pickd : ∀ {H'}, (tB b dg ns).r H6 H' → ∀ x ∈ xd, (dE (tB b dg ns) K fun k => ∃ m, m ∈ mots L ∧ k = poseK m).p H' x := fun {H'} rr x hx => by
      obtain ⟨i, hi⟩ := List.getElem?_of_mem hx
      obtain ⟨k, hk, tk⟩ := (Tks.to htd ((tB b dg ns).ts rr)).of_at hi
      obtain ⟨m, hm, rfl⟩ := List.mem_map.mp (List.mem_of_getElem? hk)
      exact ⟨_, ⟨m, hm, rfl⟩, tk⟩
    refine a_setB (ed_pickV (K := K) (n := 1) (m := 4) rfl rfl (((tB b dg ns).trans rr6 r67).2 hB2) ((tB b dg ns).keep r67 okd hxd) neD okd (pickd r67)) fun v1 H8 r8 ⟨_, ⟨m1, hm1, rfl⟩, hv1⟩ => ?_
    have r68 := (tB b dg ns).trans r67 r8
    refine a_setB (ed_pickV (K := K) (n := 1) (m := 4) rfl rfl (((tB b dg ns).trans rr6 r68).2 hB2) ((tB b dg ns).keep r68 okd hxd) neD okd (pickd r68)) fun v2 H9 r9 ⟨_, ⟨m2, hm2, rfl⟩, hv2⟩ => ?_
    have r69 := (tB b dg ns).trans r68 r9
    show tSeq _ _ _ [some (.ref a0), some (.ref b), some (.ref r), some vt, some (.ref du), some v1, some v2, none, none, none, none, none, none, none, none, none] H9
    refine a_ifS (R := tx) (et_v (ed_notInD (K := K) (k := poseK (laid m1 m2)) (poseK_nice _) nices (ed_callK [poseK m1, poseK m2] ⟨_, _, rfl, rfl⟩ (ea_cons (ed_key (n := 5) rfl (hv1.to ((tB b dg ns).ts r9))) (ea_one (ed_key (n := 6) rfl hv2)))) (due rfl r69))) (fun hb H10 e10 => ?_) (fun _ H10 e10 => ?_)
    · rw [decide_eq_true (mem_poseKs.mpr (comp_mots hm1 hm2))] at hb
      cases hb
    have r610 := (tB b dg ns).trans r69 ((tB b dg ns).ex e10)
    have rr10 := (tB b dg ns).trans rr6 r610
    -- own
    refine a_setL (R := tx) (el_shapesL (m := home) (by omega) (lay rfl rr10) (ed_callK [] ⟨rfl, rfl⟩ ea_nil)) fun o xo H11 ho e11 hxo hto => ?_
    have r611 := (tB b dg ns).trans r610 ((tB b dg ns).ex e11)
    have rr11 := (tB b dg ns).trans rr6 r611
    have hxd11 := (tB b dg ns).keep r611 okd hxd
    have htd11 : Tks K H11 ((mots L).map poseK) xd := Tks.to htd ((tB b dg ns).ts r611)
    have hx11 := (tB b dg ns).keep rr11 okr hx2
    have ht11 := htL.to ((tB b dg ns).ts rr11)
    have layE : ∀ {σ : L2.St} {H' : Hp}, σ[2]? = some (some (.ref r)) → Ex H11 H' → ED tx (tVar 2) σ H' (dL tx K (L.map itemK)) := fun {σ H'} hs e => ed_lst hs trivial (e _ _ hx11) (ht11.ex e)
    have ownE : ∀ {σ : L2.St} {H' : Hp}, σ[7]? = some (some (.ref o)) → Ex H11 H' → ED tx (tVar 7) σ H' (dL tx K (ksort (pairsK home L))) := fun {σ H'} hs e => ed_lst hs trivial (e _ _ hxo) (Tks.ex hto e)
    clear lay due pickd hfree
    -- groups
    refine a_setD fun g hg => ?_
    have e12 : Ex H11 (upd H11 g (.dK [])) := Ex.new hg
    have hg12 : (upd H11 g (.dK [])) g = some (.dK []) := upd_same
    generalize (upd H11 g (.dK [])) = H12 at e12 hg12
    show tSeq _ _ _ [some (.ref a0), some (.ref b), some (.ref r), some vt, some (.ref du), some v1, some v2, some (.ref o), some (.ref g), none, none, none, none, none, none, none] H12
    refine a_forS (Re := tx) (R := tE g) (ei_listB (K := K) (H0 := H11) (a := du) (xs := xd) (n := 4) (m := (mots L).length) (ds := fun i => dK (tE g) K (poseK ((mots L).getD i home))) hg e12 rfl (.inl (.inl hxd11)) hlxd (fun H' e i x hx => by
        obtain ⟨k, hk, t⟩ := htd11.of_at hx
        have hi : i < (mots L).length := by have := (List.getElem?_eq_some_iff.mp hx).1; omega
        rw [List.getElem?_map, get_lt (d := home) hi] at hk
        cases hk
        exact t.ex e)) (fun _ e => (tE g).ex e)
      (fun i σ H => ∃ (y9 y12 y13 : Option V) (kvs : List (L2.Key × V)) (ns' : List Nat), σ = [some (.ref a0), some (.ref b), some (.ref r), some vt, some (.ref du), some v1, some v2, some (.ref o), some (.ref g), y9, none, none, y12, y13, none, none] ∧ GL L H g (linkT L i) kvs ns' (i * 60))
      (fun H13 e13 => ⟨none, none, none, [], [], rfl, (GL.nil (e13 _ _ hg12)).mono (Nat.zero_le _) |>.iff fun n j => by simp [linkT]⟩) (fun Hb eb i y σ' H' H13 hi e13 hP e14 hy => ?_) fun σ' H' e13 hP => ?_
    · obtain ⟨y9, y12, y13, kvs, ns', rfl, gl⟩ := hP
      have r1213 : (tE g).r H12 H13 := (tE g).trans eb ((tE g).trans e13 ((tE g).ex e14))
      have eB : Ex H11 H13 := ex_of_tE hg e12 r1213
      have hm : isMot L ((mots L).getD i home) := mots_isMot (List.mem_of_getElem? (get_lt (d := home) hi))
      have hls : ∀ n j, linkT L (i + 1) n j ↔ linkT L i n j ∨ PR L ((mots L).getD i home) n j := linkT_succ hi
      generalize (mots L).getD i home = m at hy hm hls
      show tSeq _ _ _ [some (.ref a0), some (.ref b), some (.ref r), some vt, some (.ref du), some v1, some v2, some (.ref o), some (.ref g), some y, none, none, y12, y13, none, none] H13
      refine a_setL (R := tx) (el_shapesL (m := m) (by omega) (layE rfl eB) (ed_key (n := 9) rfl hy)) fun rw xrw H14 hrw e15 hxrw htrw => ?_
      have hg13 : H13 g ≠ none := by rw [(gl.ex e14).at_]; simp
      have rwg : rw ≠ g := fun z => hg13 (z ▸ hrw)
      have nl := numd_len 0 L
      have plen := pairs_len home L
      refine a_for (Re := tx) (R := tE g) (ei_rng1 (K := K) (n := ((ksort (pairsK home L)).length : Int)) (ea_one (ed_len _ (fun _ _ _ h => h) (ED.s_of_l (ownE rfl (Ex.trans eB e15))))) ⟨by omega, by omega⟩) (fun _ e => (tE g).ex e)
        (fun k σ H => ∃ (y13 : Option V) (kvs : List (L2.Key × V)) (ns' : List Nat), σ = [some (.ref a0), some (.ref b), some (.ref r), some vt, some (.ref du), some v1, some v2, some (.ref o), some (.ref g), some y, none, none, some (.ref rw), y13, none, none] ∧ GL L H g (fun a c => linkT L i a c ∨ ∃ t, t < k ∧ ZP L m t a c) kvs ns' (i * 60 + k))
        (fun H15 e16 => ⟨y13, kvs, ns', rfl, (gl.ex ((Ex.trans e14 e15).trans e16)).iff fun n j => by simp⟩) (fun Hc ec k z σ' H15 H16 hk e16 hP e17 hz => ?_) fun σ' H15 e16 hP => ?_
      · obtain ⟨y13, kvs, ns', rfl, gl⟩ := hP
        have hz := pN hz
        subst hz
        have hk : k < (numd 0 L).length := by omega
        have r1415 : (tE g).r H14 H15 := (tE g).trans ec e16
        have eC : Ex H11 H16 := (ex_of_tE hg e12 ((tE g).trans r1213 ((tE g).trans ((tE g).ex e15) r1415))).trans e17
        have hxrw16 : H16 rw = some (.lst xrw) := e17 _ _ (r1415.1 _ _ rwg hxrw)
        have htrw16 : Tks K H16 (ksort (pairsK m L)) xrw := (Tks.to htrw ((tE g).ts r1415)).ex e17
        have gl16 := gl.ex e17
        obtain ⟨n, j, hzp, hnL⟩ := zp_at m hk
        obtain ⟨s1, s2, z1, z2⟩ := id hzp
        have hrowN : ∀ H', Ex H16 H' → ED tx (tOp (rIx K) (tOp (rIx K) (tVar 12) (tVar 13)) (tC (.int 1))) [some (.ref a0), some (.ref b), some (.ref r), some vt, some (.ref du), some v1, some v2, some (.ref o), some (.ref g), some y, none, none, some (.ref rw), some (.int (k : Nat)), none, none] H' (dK tx K (.num (n : Int))) := fun H' e =>
          ed_ixT (K := K) (ks := [s1, .num (n : Int)]) (i := 1) rfl (ed_ixL (K := K) (ks := ksort (pairsK m L)) (k := pairK s1 n) (at_nat.trans z1) (ed_lst (n := 12) rfl trivial (e _ _ hxrw16) (htrw16.ex e)) (ed_num (n := 13) rfl)) ed_int
        have hownJ : ∀ H', Ex H16 H' → ED tx (tOp (rIx K) (tOp (rIx K) (tVar 7) (tVar 13)) (tC (.int 1))) [some (.ref a0), some (.ref b), some (.ref r), some vt, some (.ref du), some v1, some v2, some (.ref o), some (.ref g), some y, none, none, some (.ref rw), some (.int (k : Nat)), none, none] H' (dK tx K (.num (j : Int))) := fun H' e =>
          ed_ixT (K := K) (ks := [s2, .num (j : Int)]) (i := 1) rfl (ed_ixL (K := K) (ks := ksort (pairsK home L)) (k := pairK s2 j) (at_nat.trans z2) (ownE (σ := [some (.ref a0), some (.ref b), some (.ref r), some vt, some (.ref du), some v1, some v2, some (.ref o), some (.ref g), some y, none, none, some (.ref rw), some (.int (k : Nat)), none, none]) rfl (eC.trans e)) (ed_num (n := 13) rfl)) ed_int
        have lenk := gl16.len
        -- groups.get(.., [])
        refine ⟨.ref g, rfl, g, rfl, .inl ⟨kvs, .inl gl16.at_⟩, hrowN H16 (Ex.refl _) H16 (Ex.refl _) _ fun vy H17 e18 hvy => ⟨Nat.zero_le _, fun p1 hp1 => ?_⟩⟩
        have hvy := pN hvy
        subst hvy
        have e19 : Ex H17 (upd H17 p1 (.lst [])) := Ex.new hp1
        have hp1' : (upd H17 p1 (.lst [])) p1 = some (.lst []) := upd_same
        generalize (upd H17 p1 (.lst [])) = H18 at e19 hp1'
        have e1618 := Ex.trans e18 e19
        refine ⟨valV kvs (Sum.inl (n : Int)), .inl ⟨kvs, Sum.inl (n : Int), .inl (e1618 _ _ gl16.at_), rfl, rfl⟩, hownJ H18 e1618 H18 (Ex.refl _) _ fun vz H19 e20 hvz => ⟨by show 1 ≤ sizeLine; exact sz5 (by decide), fun p2 hp2 => ?_⟩⟩
        have hvz := pN hvz
        subst hvz
        have e21 : Ex H19 (upd H19 p2 (.lst [.int (j : Int)])) := Ex.new hp2
        have hp2' : (upd H19 p2 (.lst [.int (j : Int)])) p2 = some (.lst [.int (j : Int)]) := upd_same
        generalize (upd H19 p2 (.lst [.int (j : Int)])) = H20 at e21 hp2'
        have e1820 := Ex.trans e20 e21
        have e1620 := e1618.trans e1820
        have gl20 := gl16.ex e1620
        have hold : ∃ (a : Addr) (l : List Nat), (valV kvs (Sum.inl (n : Int))).getD (.ref p1) = .ref a ∧ H20 a = some (.lst (l.map fun j : Nat => V.int (j : Int))) ∧ (∀ i', i' ∈ l ↔ (linkT L i n i' ∨ ∃ t, t < k ∧ ZP L m t n i')) ∧ l.length ≤ i * 60 + k := by
          by_cases hn : n ∈ ns'
          · obtain ⟨a, l, q1, q2, q3, q4, q5, q6⟩ := gl20.val n hn
            exact ⟨a, l, by rw [q1]; rfl, q3, q4, q6⟩
          · have q1 : valV kvs (Sum.inl (n : Int)) = none := valV_none (by rw [gl20.keys]; exact fun z => hn (inlMem.mp z))
            exact ⟨p1, [], by rw [q1]; rfl, e1820 _ _ hp1', fun i' => ⟨fun z => (nomatch z), fun z => (hn (gl20.has n i' z)).elim⟩, Nat.zero_le _⟩
        obtain ⟨a, l, o1, o2, o3, o4⟩ := hold
        show rCat ((valV kvs (Sum.inl (n : Int))).getD (.ref p1)) (.ref p2) H20 _
        rw [o1]
        refine ⟨a, p2, l.map fun j : Nat => V.int (j : Int), [.int (j : Int)], rfl, rfl, o2, hp2', ?_, fun p3 hp3 => ?_⟩
        · rw [List.length_map, List.length_singleton]
          have : i * 60 ≤ 800 * 60 := Nat.mul_le_mul_right 60 (by omega)
          exact sz5 (by omega)
        have e22 : Ex H20 (upd H20 p3 (.lst ((l.map fun j : Nat => V.int (j : Int)) ++ [.int (j : Int)]))) := Ex.new hp3
        have hp3' : (upd H20 p3 (.lst ((l.map fun j : Nat => V.int (j : Int)) ++ [.int (j : Int)]))) p3 = some (.lst ((l ++ [j]).map fun j : Nat => V.int (j : Int))) := by rw [upd_same, List.map_append]; rfl
        generalize (upd H20 p3 (.lst ((l.map fun j : Nat => V.int (j : Int)) ++ [.int (j : Int)]))) = H21 at e22 hp3'
        refine ⟨.ref g, rfl, hrowN H21 (e1620.trans e22) H21 (Ex.refl _) _ fun vy H22 e23 hvy => ?_⟩
        have hvy := pN hvy
        subst hvy
        have eD := (e1620.trans e22).trans e23
        have gl22 := gl16.ex eD
        refine ⟨g, _, rfl, .inl ⟨kvs, Sum.inl (n : Int), gl22.at_, rfl, small1000 (by omega), rfl⟩, ?_⟩
        refine ⟨(tE g).trans e16 (tE_updD ((tE g).ex (Ex.trans e17 eD)) gl22.at_), some (.int (k : Nat)), putK kvs (Sum.inl (n : Int)) (.ref p3), ins ns' n, rfl, ?_⟩
        refine ((gl22.put (j := j) hnL (e23 _ _ hp3') (fun i' => ?_) (by rw [List.length_append, List.length_singleton]; omega)).mono (Nat.le_refl _)).iff fun a' c' => ?_
        · rw [List.mem_append, List.mem_singleton, o3]
        · constructor
          · rintro ((z | ⟨t, ht, z⟩) | ⟨rfl, rfl⟩)
            · exact .inl z
            · exact .inr ⟨t, by omega, z⟩
            · exact .inr ⟨k, by omega, hzp⟩
          · rintro (z | ⟨t, ht, z⟩)
            · exact .inl (.inl z)
            · by_cases htk : t < k
              · exact .inl (.inr ⟨t, htk, z⟩)
              · have : t = k := by omega
                subst this
                obtain ⟨rfl, rfl⟩ := zp_one z hzp
                exact .inr ⟨rfl, rfl⟩
      · obtain ⟨y13, kvs, ns', rfl, gl⟩ := hP
        have elen : ((ksort (pairsK home L)).length : Int).toNat = (numd 0 L).length := by omega
        rw [elen] at gl
        refine ⟨(tE g).trans e13 ((tE g).trans ((tE g).ex (Ex.trans e14 e15)) e16), some y, some (.ref rw), y13, kvs, ns', rfl, ((gl.mono (by rw [Nat.add_mul]; omega)).iff fun a' c' => ?_)⟩
        rw [hls, zp_pr hF hm]
    · obtain ⟨y9, y12, y13, kvs, ns', rfl, gl⟩ := hP
      have gl := gl.iff fun n j => linkT_all (L := L)
      have eE : Ex H11 H' := ex_of_tE hg e12 e13
      -- sets
      refine a_setL (R := tx) (el_lst (K := K) [] ea_nil (by decide)) fun st xst H14 hst e14 hxst tst => ?_
      have tst := tks_nil.mp tst
      subst tst
      have gl14 := gl.ex e14
      have hkeys : ELk tx K (tCB (fun xs H Q => ∃ (a : Addr) (kvs : List (L2.Key × V)), xs = [.ref a] ∧ Rd H a (.dK kvs) ∧ ∀ p, H p = none → Q (.ref p) (upd H p (.lst (kvs.map fun kv => kV kv.1)))) (tCons (tVar 8) tNil)) [some (.ref a0), some (.ref b), some (.ref r), some vt, some (.ref du), some v1, some v2, some (.ref o), some (.ref g), y9, some (.ref st), none, y12, y13, none, none] H14 ((ns'.map fun n : Nat => (n : Int)).map NestedKey.num) := fun H15 e15 Q1 k1 =>
        ⟨.ref g, rfl, g, kvs, rfl, .inl (e15 _ _ gl14.at_), fun p hp => k1 p _ _ hp (Ex.new hp) upd_same (by
          have ek : (kvs.map fun kv => kV kv.1) = (ns'.map fun n : Nat => (n : Int)).map V.int := by
            have := congrArg (List.map kV) gl14.keys
            rw [List.map_map, List.map_map] at this
            rw [List.map_map]
            exact this
          rw [ek]
          exact Tks.ints _)⟩
      have hst14 : H14 st ≠ none := by rw [hxst]; simp
      have gst : g ≠ st := ne_of_none gl.at_ hst
      refine a_forS (Re := tx) (R := tE st) (ei_listN (K := K) hkeys fun p hp z => hst14 (z ▸ hp)) (fun _ e => (tE st).ex e)
        (fun i σ H => ∃ (y11 y13 y14 : Option V) (xs : List V) (D : List NestedKey), σ = [some (.ref a0), some (.ref b), some (.ref r), some vt, some (.ref du), some v1, some v2, some (.ref o), some (.ref g), y9, some (.ref st), y11, y12, y13, y14, none] ∧ H st = some (.lst xs) ∧ Tks K H D xs ∧ D.Nodup ∧ D.length ≤ i ∧ ∀ k, k ∈ D ↔ ∃ n ∈ ns'.take i, k = gK (grp L n))
        (fun H15 e15 => ⟨none, y13, none, [], [], rfl, e15 _ _ hxst, tks_nil.mpr rfl, List.nodup_nil, Nat.le_refl _, fun k => by simp⟩) (fun Hb eb i y σ' H15 H16 hi e15 hP e16 hy => ?_) fun σ' H15 e15 hP => ?_
      · obtain ⟨y11, y13, y14, xs, D, rfl, hxs, htD, hnD, hlD, hmD⟩ := hP
        have hi : i < ns'.length := by rw [List.length_map, List.length_map] at hi; exact hi
        have ey : ((ns'.map fun n : Nat => (n : Int)).map NestedKey.num).getD i .none = .num ((ns'.getD i 0 : Nat) : Int) := by
          rw [List.map_map]
          exact getD_map (d := (0 : Nat)) (f := NestedKey.num ∘ fun n : Nat => (n : Int)) hi
        rw [ey] at hy
        have hy := pN hy
        subst hy
        have hgn : ns'[i]? = some (ns'.getD i 0) := get_lt hi
        generalize ns'.getD i 0 = n at hgn
        have hnm := List.mem_of_getElem? hgn
        have eF : Ex H' H16 := (ex_of_tE hst e14 ((tE st).trans eb e15)).trans e16
        have gl16 := gl.ex eF
        obtain ⟨a, l, q1, q2, q3, q4, q5, q6⟩ := gl16.val n hnm
        show tSeq _ _ _ [some (.ref a0), some (.ref b), some (.ref r), some vt, some (.ref du), some v1, some v2, some (.ref o), some (.ref g), y9, some (.ref st), some (.int (n : Nat)), y12, y13, y14, none] H16
        have ek : keptK L.length (fun k => decide (k ∈ l)) (fun k => .num (k : Nat)) = (grp L n).map fun k : Nat => NestedKey.num (k : Int) := grp_eq q4
        have hrng := ei_rng1 (Re := tx) (R := tx) (K := K) (σ := [some (.ref a0), some (.ref b), some (.ref r), some vt, some (.ref du), some v1, some v2, some (.ref o), some (.ref g), y9, some (.ref st), some (.int (n : Nat)), y12, y13, y14, none]) (H := H16) (n := ((L.map itemK).length : Int)) (ea_one (ed_len (fun xs H Q => ∃ p ys, xs = [V.ref p] ∧ (SqL K H p ys ∨ SqT K H p ys) ∧ Q (.int ys.length) H) (fun _ _ _ h => h) (ED.s_of_l (layE (σ := [some (.ref a0), some (.ref b), some (.ref r), some vt, some (.ref du), some v1, some v2, some (.ref o), some (.ref g), y9, some (.ref st), some (.int (n : Nat)), y12, y13, y14, none]) rfl (eE.trans eF))))) ⟨by omega, by rw [List.length_map]; omega⟩
        have eln : ((L.map itemK).length : Int).toNat = L.length := by rw [List.length_map]; omega
        rw [eln] at hrng
        have hgrp := el_lc (K := K) (te := tVar 13) (tt := tTest (tOp (rIn K false) (tVar 13) (tDGet (tVar 8) (tVar 11)))) (g := gName 13) (vs := [13]) (fun k => decide (k ∈ l)) (fun k => .num (k : Nat)) hrng (by omega) fun k v H17 hlt e17 hv Q1 k1 => by
          have hv := pN hv
          subst hv
          refine k1 _ _ (by
            show wipe _ _ = wipe _ _
            simp [wipe]) (Ex.refl _) (fun H18 e18 Q2 k2 => ?_) fun _ => ed_num rfl
          have e1 := Ex.trans e17 e18
          refine ⟨.int (k : Nat), rfl, .ref g, rfl, .int (n : Nat), rfl, g, .ref a, rfl, .inl ⟨kvs, Sum.inl (n : Int), .inl (e1 _ _ gl16.at_), rfl, q1.symm⟩, a, l.map fun j : Nat => V.int (j : Int), rfl, .inl (.inl (.inl (e1 _ _ q3))), rfl, ?_, decide (k ∈ l), ?_, k2 H18 (Ex.refl _)⟩
          · rw [List.all_eq_true]
            intro x hx
            obtain ⟨j, _, rfl⟩ := List.mem_map.mp hx
            rfl
          · show V.bl (inV (.int (k : Nat)) (l.map fun j : Nat => V.int (j : Int))) = V.bl (decide (k ∈ l))
            rw [inV_nat]
        rw [ek] at hgrp
        refine a_set (R := tx) (d := dK tx K (gK (grp L n))) (ed_tupOf _ (fun _ _ _ h => h) hgrp) fun vg H17 e17 hvg => ?_
        have hDn : ∀ k ∈ D, Nice k := fun k hk => by
          obtain ⟨n', _, rfl⟩ := (hmD k).mp hk
          exact gK_nice _
        have e1617 := Ex.trans e16 e17
        refine a_if (R := tx) (et_v (ed_notInD (K := K) (gK_nice _) hDn (ed_key (n := 14) rfl hvg) (ed_lst (n := 10) rfl trivial (e1617 _ _ hxs) (htD.ex e1617)))) (fun hb H18 e18 => ?_) (fun hb H18 e18 => ?_)
        · have hnot : gK (grp L n) ∉ D := by simpa using hb
          refine a_app (R := tx) (d := dK tx K (gK (grp L n))) ((Ex.trans e1617 e18) _ _ hxs) trivial (ed_ref (n := 10) rfl) (ed_key (n := 14) rfl (Tk.ex hvg e18)) (by rw [htD.len]; have := gl16.len; have hk := congrArg List.length gl16.keys; rw [List.length_map, List.length_map] at hk; omega) fun v19 H19 e19 hv19 hl19 => ?_
          have ts : TSt H19 (upd H19 st (.lst (xs ++ [v19]))) := (TSt.refl H19).lst hl19
          have e1619 := (Ex.trans e1617 e18).trans e19
          refine ⟨tE_upd ((tE st).trans e15 ((tE st).ex e1619)) hl19, _, _, _, xs ++ [v19], D ++ [gK (grp L n)], rfl, upd_same, ((htD.ex e1619).to ts).snoc (Tk.to hv19 ts), ?_, by rw [List.length_append, List.length_singleton]; omega, fun k => ?_⟩
          · rw [List.nodup_append]
            exact ⟨hnD, by simp, fun x hx z hz => by rw [List.mem_singleton.mp hz]; exact fun e => hnot (e ▸ hx)⟩
          · rw [List.mem_append, List.mem_singleton, hmD, List.take_add_one, hgn]
            simp only [Option.toList, List.mem_append, List.mem_singleton]
            constructor
            · rintro (⟨z, h1, h2⟩ | h)
              · exact ⟨z, .inl h1, h2⟩
              · exact ⟨n, .inr rfl, h⟩
            · rintro ⟨z, h1 | rfl, h2⟩
              · exact .inl ⟨z, h1, h2⟩
              · exact .inr h2
        · have hin : gK (grp L n) ∈ D := by simpa using hb
          have e1618 := Ex.trans e1617 e18
          refine ⟨(tE st).trans e15 ((tE st).ex e1618), _, _, _, xs, D, rfl, e1618 _ _ hxs, htD.ex e1618, hnD, by omega, fun k => ?_⟩
          rw [hmD, List.take_add_one, hgn]
          simp only [Option.toList, List.mem_append, List.mem_singleton]
          constructor
          · rintro ⟨z, h1, h2⟩
            exact ⟨z, .inl h1, h2⟩
          · rintro ⟨z, h1 | rfl, h2⟩
            · exact ⟨z, h1, h2⟩
            · subst h2
              exact (hmD _).mp hin
      · obtain ⟨y11, y13, y14, xs, D, rfl, hxs, htD, hnD, hlD, hmD⟩ := hP
        have eF : Ex H' H15 := ex_of_tE hst e14 e15
        have elen : ((ns'.map fun n : Nat => (n : Int)).map NestedKey.num).length = ns'.length := by rw [List.length_map, List.length_map]
        rw [elen] at hlD hmD
        rw [List.take_length] at hmD
        have hns : ns'.length ≤ L.length := by
          have := gl.len
          have hk := congrArg List.length gl.keys
          rw [List.length_map, List.length_map] at hk
          omega
        have hD : ∀ k, k ∈ D ↔ ∃ q ∈ numd 0 L, k = gK (grp L q.2) := fun k => by
          rw [hmD]
          constructor
          · rintro ⟨n, hn, rfl⟩
            obtain ⟨a, l, q1, q2, q3, q4, q5, q6⟩ := gl.val n hn
            obtain ⟨j, hj⟩ := List.exists_mem_of_ne_nil l q5
            obtain ⟨p, hp⟩ := numd_one.mp ⟨j, (q4 j).mp hj⟩
            exact ⟨(p, n), hp, rfl⟩
          · rintro ⟨z, hz, rfl⟩
            obtain ⟨j, hj⟩ := numd_one.mpr ⟨z.1, hz⟩
            exact ⟨z.2, gl.has _ _ hj, rfl⟩
        have hs := sets_of hnD hD
        have so : Sorty D := ⟨fun x hx y hy => by
          obtain ⟨q1, _, rfl⟩ := (hD x).mp hx
          obtain ⟨q2, _, rfl⟩ := (hD y).mp hy
          exact alike_gK _ _, fun k hk => by
          obtain ⟨q1, h1, rfl⟩ := (hD k).mp hk
          obtain ⟨x, r, e⟩ := grp_ne (p := q1.1) (n := q1.2) h1
          exact ⟨_, _, by rw [e]; rfl⟩, fun k hk => by
          obtain ⟨q1, h1, rfl⟩ := (hD k).mp hk
          have := gK_ddepth (grp L q1.2)
          omega, by omega⟩
        have hso := el_sortS (R := tx) (K := K) (σ := [some (.ref a0), some (.ref b), some (.ref r), some vt, some (.ref du), some v1, some v2, some (.ref o), some (.ref g), y9, some (.ref st), y11, y12, y13, y14, none]) (H := H15) (te := tVar 10) so (ed_lst (n := 10) rfl trivial hxs htD)
        rw [hs] at hso
        refine a_ret (R := tx) (ed_same (K := K) (shows_sets hLB) (ed_callK [.tup (L.map itemK)] ⟨L, hF, by omega, rfl, rfl⟩ (ea_one (ed_tupOfS _ (fun _ _ _ h => h) (ED.s_of_l (layE rfl (eE.trans eF)))))) (ed_tupOf _ (fun _ _ _ h => h) hso)) fun v H16 e16 hv => ?_
        have hv : v = .bl true := hv
        subst hv
        exact q H16
end
end Mk
set_option Elab.async false
set_option linter.all false
set_option maxRecDepth 100000
set_option maxHeartbeats 4000000
/-! What the top has written, and the end. -/
namespace Mk
open PySem PySem.Spec PyProof.Rows L2 Evl
theorem tks_i {K : PySem.W.Frag} {H : Hp} (ns : List Int) : Tks K H (ns.map NestedKey.num) (ns.map V.int) := Tks.ints ns
theorem kWT {K : PySem.W.Frag} {a : Addr} {dd : Option Addr} {its : Array Value} {n : Nat} {ss : Array (Option Value)} (l : K.lookup a = some ⟨.type "tuple", dd, .seq its n, ss⟩) (hz : its.size ≤ 100000) {xs : List V} (rv : Vals xs its.toList) {ks : List NestedKey} {H' : Hp} (tk : Tks K H' ks xs) (H : Hp) (e : H' = H := by rfl) : Tk K H (.tup ks) (.ref a) := by
  subst e
  exact tk_tup.mpr ⟨a, xs, rfl, .inr ⟨_, its, n, l, rfl, rfl, sz_of hz, rv⟩, tk⟩
theorem all_mk {l : PySem.W.OpenLaw} {w : World} {K : PySem.W.Frag} {h : Heap} {mg : Str → Option Value} {fa : Addr} (X : K.In h) (G : h.Ns mainGlobals mg) (hfa : mg "law" = some (.ref fa))
    {f0 : Addr} {od0 an0 : Option Addr} {sl0 : Array (Option Value)} {oc0 kV0 dc0 pm0 cd0 ct0 : Value} (a0 : PySem.W.nsIn K mainGlobals "step" = some (some (.ref f0))) (l0 : K.lookup f0 = some ⟨oc0, od0, .func (PySem.W.fnOf "step" "step" (defArgs s_step) (defBody s_step) (defScope s_step) .none kV0 dc0 pm0 an0 cd0 ct0), sl0⟩) (c0 : PySem.W.codeIn K cd0 "step" = true) (k0 : PySem.W.keepIn K (.ref f0) = true)
    {f1 : Addr} {od1 an1 : Option Addr} {sl1 : Array (Option Value)} {oc1 kV1 dc1 pm1 cd1 ct1 : Value} (a1 : PySem.W.nsIn K mainGlobals "moved" = some (some (.ref f1))) (l1 : K.lookup f1 = some ⟨oc1, od1, .func (PySem.W.fnOf "moved" "moved" (defArgs s_moved) (defBody s_moved) (defScope s_moved) .none kV1 dc1 pm1 an1 cd1 ct1), sl1⟩) (c1 : PySem.W.codeIn K cd1 "moved" = true) (k1 : PySem.W.keepIn K (.ref f1) = true)
    {f2 : Addr} {od2 an2 : Option Addr} {sl2 : Array (Option Value)} {oc2 kV2 dc2 pm2 cd2 ct2 : Value} (a2 : PySem.W.nsIn K mainGlobals "turned" = some (some (.ref f2))) (l2 : K.lookup f2 = some ⟨oc2, od2, .func (PySem.W.fnOf "turned" "turned" (defArgs s_turned) (defBody s_turned) (defScope s_turned) .none kV2 dc2 pm2 an2 cd2 ct2), sl2⟩) (c2 : PySem.W.codeIn K cd2 "turned" = true) (k2 : PySem.W.keepIn K (.ref f2) = true)
    {f3 : Addr} {od3 an3 : Option Addr} {sl3 : Array (Option Value)} {oc3 kV3 dc3 pm3 cd3 ct3 : Value} (a3 : PySem.W.nsIn K mainGlobals "laid" = some (some (.ref f3))) (l3 : K.lookup f3 = some ⟨oc3, od3, .func (PySem.W.fnOf "laid" "laid" (defArgs s_laid) (defBody s_laid) (defScope s_laid) .none kV3 dc3 pm3 an3 cd3 ct3), sl3⟩) (c3 : PySem.W.codeIn K cd3 "laid" = true) (k3 : PySem.W.keepIn K (.ref f3) = true)
    {f4 : Addr} {od4 an4 : Option Addr} {sl4 : Array (Option Value)} {oc4 kV4 dc4 pm4 cd4 ct4 : Value} (a4 : PySem.W.nsIn K mainGlobals "back" = some (some (.ref f4))) (l4 : K.lookup f4 = some ⟨oc4, od4, .func (PySem.W.fnOf "back" "back" (defArgs s_back) (defBody s_back) (defScope s_back) .none kV4 dc4 pm4 an4 cd4 ct4), sl4⟩) (c4 : PySem.W.codeIn K cd4 "back" = true) (k4 : PySem.W.keepIn K (.ref f4) = true)
    {f5 : Addr} {od5 an5 : Option Addr} {sl5 : Array (Option Value)} {oc5 kV5 dc5 pm5 cd5 ct5 : Value} (a5 : PySem.W.nsIn K mainGlobals "ends_of" = some (some (.ref f5))) (l5 : K.lookup f5 = some ⟨oc5, od5, .func (PySem.W.fnOf "ends_of" "ends_of" (defArgs s_ends_of) (defBody s_ends_of) (defScope s_ends_of) .none kV5 dc5 pm5 an5 cd5 ct5), sl5⟩) (c5 : PySem.W.codeIn K cd5 "ends_of" = true) (k5 : PySem.W.keepIn K (.ref f5) = true)
    {f6 : Addr} {od6 an6 : Option Addr} {sl6 : Array (Option Value)} {oc6 kV6 dc6 pm6 cd6 ct6 : Value} (a6 : PySem.W.nsIn K mainGlobals "all_ends" = some (some (.ref f6))) (l6 : K.lookup f6 = some ⟨oc6, od6, .func (PySem.W.fnOf "all_ends" "all_ends" (defArgs s_all_ends) (defBody s_all_ends) (defScope s_all_ends) .none kV6 dc6 pm6 an6 cd6 ct6), sl6⟩) (c6 : PySem.W.codeIn K cd6 "all_ends" = true) (k6 : PySem.W.keepIn K (.ref f6) = true)
    {f7 : Addr} {od7 an7 : Option Addr} {sl7 : Array (Option Value)} {oc7 kV7 dc7 pm7 cd7 ct7 : Value} (a7 : PySem.W.nsIn K mainGlobals "shape" = some (some (.ref f7))) (l7 : K.lookup f7 = some ⟨oc7, od7, .func (PySem.W.fnOf "shape" "shape" (defArgs s_shape) (defBody s_shape) (defScope s_shape) .none kV7 dc7 pm7 an7 cd7 ct7), sl7⟩) (c7 : PySem.W.codeIn K cd7 "shape" = true) (k7 : PySem.W.keepIn K (.ref f7) = true)
    {f8 : Addr} {od8 an8 : Option Addr} {sl8 : Array (Option Value)} {oc8 kV8 dc8 pm8 cd8 ct8 : Value} (a8 : PySem.W.nsIn K mainGlobals "shapes" = some (some (.ref f8))) (l8 : K.lookup f8 = some ⟨oc8, od8, .func (PySem.W.fnOf "shapes" "shapes" (defArgs s_shapes) (defBody s_shapes) (defScope s_shapes) .none kV8 dc8 pm8 an8 cd8 ct8), sl8⟩) (c8 : PySem.W.codeIn K cd8 "shapes" = true) (k8 : PySem.W.keepIn K (.ref f8) = true)
    {f9 : Addr} {od9 an9 : Option Addr} {sl9 : Array (Option Value)} {oc9 kV9 dc9 pm9 cd9 ct9 : Value} (a9 : PySem.W.nsIn K mainGlobals "motion_between" = some (some (.ref f9))) (l9 : K.lookup f9 = some ⟨oc9, od9, .func (PySem.W.fnOf "motion_between" "motion_between" (defArgs s_motion_between) (defBody s_motion_between) (defScope s_motion_between) .none kV9 dc9 pm9 an9 cd9 ct9), sl9⟩) (c9 : PySem.W.codeIn K cd9 "motion_between" = true) (k9 : PySem.W.keepIn K (.ref f9) = true)
    {f10 : Addr} {od10 an10 : Option Addr} {sl10 : Array (Option Value)} {oc10 kV10 dc10 pm10 cd10 ct10 : Value} (a10 : PySem.W.nsIn K mainGlobals "motions" = some (some (.ref f10))) (l10 : K.lookup f10 = some ⟨oc10, od10, .func (PySem.W.fnOf "motions" "motions" (defArgs s_motions) (defBody s_motions) (defScope s_motions) .none kV10 dc10 pm10 an10 cd10 ct10), sl10⟩) (c10 : PySem.W.codeIn K cd10 "motions" = true) (k10 : PySem.W.keepIn K (.ref f10) = true)
    {f11 : Addr} {od11 an11 : Option Addr} {sl11 : Array (Option Value)} {oc11 kV11 dc11 pm11 cd11 ct11 : Value} (a11 : PySem.W.nsIn K mainGlobals "alike" = some (some (.ref f11))) (l11 : K.lookup f11 = some ⟨oc11, od11, .func (PySem.W.fnOf "alike" "alike" (defArgs s_alike) (defBody s_alike) (defScope s_alike) .none kV11 dc11 pm11 an11 cd11 ct11), sl11⟩) (c11 : PySem.W.codeIn K cd11 "alike" = true) (k11 : PySem.W.keepIn K (.ref f11) = true)
    {f12 : Addr} {od12 an12 : Option Addr} {sl12 : Array (Option Value)} {oc12 kV12 dc12 pm12 cd12 ct12 : Value} (a12 : PySem.W.nsIn K mainGlobals "_law_cell" = some (some (.ref f12))) (l12 : K.lookup f12 = some ⟨oc12, od12, .func (PySem.W.fnOf "_law_cell" "_law_cell" (defArgs s__law_cell) (defBody s__law_cell) (defScope s__law_cell) .none kV12 dc12 pm12 an12 cd12 ct12), sl12⟩) (c12 : PySem.W.codeIn K cd12 "_law_cell" = true) (k12 : PySem.W.keepIn K (.ref f12) = true)
    {f13 : Addr} {od13 an13 : Option Addr} {sl13 : Array (Option Value)} {oc13 kV13 dc13 pm13 cd13 ct13 : Value} (a13 : PySem.W.nsIn K mainGlobals "_law_same" = some (some (.ref f13))) (l13 : K.lookup f13 = some ⟨oc13, od13, .func (PySem.W.fnOf "_law_same" "_law_same" (defArgs s__law_same) (defBody s__law_same) (defScope s__law_same) .none kV13 dc13 pm13 an13 cd13 ct13), sl13⟩) (c13 : PySem.W.codeIn K cd13 "_law_same" = true) (k13 : PySem.W.keepIn K (.ref f13) = true)
    {f14 : Addr} {od14 an14 : Option Addr} {sl14 : Array (Option Value)} {oc14 kV14 dc14 pm14 cd14 ct14 : Value} (a14 : PySem.W.nsIn K mainGlobals "_law_digits" = some (some (.ref f14))) (l14 : K.lookup f14 = some ⟨oc14, od14, .func (PySem.W.fnOf "_law_digits" "_law_digits" (defArgs s__law_digits) (defBody s__law_digits) (defScope s__law_digits) .none kV14 dc14 pm14 an14 cd14 ct14), sl14⟩) (c14 : PySem.W.codeIn K cd14 "_law_digits" = true) (k14 : PySem.W.keepIn K (.ref f14) = true)
    {f15 : Addr} {od15 an15 : Option Addr} {sl15 : Array (Option Value)} {oc15 kV15 dc15 pm15 cd15 ct15 : Value} (a15 : PySem.W.nsIn K mainGlobals "_law_draw" = some (some (.ref f15))) (l15 : K.lookup f15 = some ⟨oc15, od15, .func (PySem.W.fnOf "_law_draw" "_law_draw" (defArgs s__law_draw) (defBody s__law_draw) (defScope s__law_draw) .none kV15 dc15 pm15 an15 cd15 ct15), sl15⟩) (c15 : PySem.W.codeIn K cd15 "_law_draw" = true) (k15 : PySem.W.keepIn K (.ref f15) = true)
    {f16 : Addr} {od16 an16 : Option Addr} {sl16 : Array (Option Value)} {oc16 kV16 dc16 pm16 cd16 ct16 : Value} (a16 : PySem.W.nsIn K mainGlobals "_law_pick" = some (some (.ref f16))) (l16 : K.lookup f16 = some ⟨oc16, od16, .func (PySem.W.fnOf "_law_pick" "_law_pick" (defArgs s__law_pick) (defBody s__law_pick) (defScope s__law_pick) .none kV16 dc16 pm16 an16 cd16 ct16), sl16⟩) (c16 : PySem.W.codeIn K cd16 "_law_pick" = true) (k16 : PySem.W.keepIn K (.ref f16) = true)
    {f17 : Addr} {od17 an17 : Option Addr} {sl17 : Array (Option Value)} {oc17 kV17 dc17 pm17 cd17 ct17 : Value} (a17 : PySem.W.nsIn K mainGlobals "_law_move" = some (some (.ref f17))) (l17 : K.lookup f17 = some ⟨oc17, od17, .func (PySem.W.fnOf "_law_move" "_law_move" (defArgs s__law_move) (defBody s__law_move) (defScope s__law_move) .none kV17 dc17 pm17 an17 cd17 ct17), sl17⟩) (c17 : PySem.W.codeIn K cd17 "_law_move" = true) (k17 : PySem.W.keepIn K (.ref f17) = true)
    {f18 : Addr} {od18 an18 : Option Addr} {sl18 : Array (Option Value)} {oc18 kV18 dc18 pm18 cd18 ct18 : Value} (a18 : PySem.W.nsIn K mainGlobals "_law_turned" = some (some (.ref f18))) (l18 : K.lookup f18 = some ⟨oc18, od18, .func (PySem.W.fnOf "_law_turned" "_law_turned" (defArgs s__law_turned) (defBody s__law_turned) (defScope s__law_turned) .none kV18 dc18 pm18 an18 cd18 ct18), sl18⟩) (c18 : PySem.W.codeIn K cd18 "_law_turned" = true) (k18 : PySem.W.keepIn K (.ref f18) = true)
    {f19 : Addr} {od19 an19 : Option Addr} {sl19 : Array (Option Value)} {oc19 kV19 dc19 pm19 cd19 ct19 : Value} (a19 : PySem.W.nsIn K mainGlobals "_law_laid" = some (some (.ref f19))) (l19 : K.lookup f19 = some ⟨oc19, od19, .func (PySem.W.fnOf "_law_laid" "_law_laid" (defArgs s__law_laid) (defBody s__law_laid) (defScope s__law_laid) .none kV19 dc19 pm19 an19 cd19 ct19), sl19⟩) (c19 : PySem.W.codeIn K cd19 "_law_laid" = true) (k19 : PySem.W.keepIn K (.ref f19) = true)
    {f20 : Addr} {od20 an20 : Option Addr} {sl20 : Array (Option Value)} {oc20 kV20 dc20 pm20 cd20 ct20 : Value} (a20 : PySem.W.nsIn K mainGlobals "_law_back" = some (some (.ref f20))) (l20 : K.lookup f20 = some ⟨oc20, od20, .func (PySem.W.fnOf "_law_back" "_law_back" (defArgs s__law_back) (defBody s__law_back) (defScope s__law_back) .none kV20 dc20 pm20 an20 cd20 ct20), sl20⟩) (c20 : PySem.W.codeIn K cd20 "_law_back" = true) (k20 : PySem.W.keepIn K (.ref f20) = true)
    {f21 : Addr} {od21 an21 : Option Addr} {sl21 : Array (Option Value)} {oc21 kV21 dc21 pm21 cd21 ct21 : Value} (a21 : PySem.W.nsIn K mainGlobals "_law_led" = some (some (.ref f21))) (l21 : K.lookup f21 = some ⟨oc21, od21, .func (PySem.W.fnOf "_law_led" "_law_led" (defArgs s__law_led) (defBody s__law_led) (defScope s__law_led) .none kV21 dc21 pm21 an21 cd21 ct21), sl21⟩) (c21 : PySem.W.codeIn K cd21 "_law_led" = true) (k21 : PySem.W.keepIn K (.ref f21) = true)
    {f22 : Addr} {od22 an22 : Option Addr} {sl22 : Array (Option Value)} {oc22 kV22 dc22 pm22 cd22 ct22 : Value} (a22 : PySem.W.nsIn K mainGlobals "_law_home" = some (some (.ref f22))) (l22 : K.lookup f22 = some ⟨oc22, od22, .func (PySem.W.fnOf "_law_home" "_law_home" (defArgs s__law_home) (defBody s__law_home) (defScope s__law_home) .none kV22 dc22 pm22 an22 cd22 ct22), sl22⟩) (c22 : PySem.W.codeIn K cd22 "_law_home" = true) (k22 : PySem.W.keepIn K (.ref f22) = true)
    {f23 : Addr} {od23 an23 : Option Addr} {sl23 : Array (Option Value)} {oc23 kV23 dc23 pm23 cd23 ct23 : Value} (a23 : PySem.W.nsIn K mainGlobals "_law_mirror" = some (some (.ref f23))) (l23 : K.lookup f23 = some ⟨oc23, od23, .func (PySem.W.fnOf "_law_mirror" "_law_mirror" (defArgs s__law_mirror) (defBody s__law_mirror) (defScope s__law_mirror) .none kV23 dc23 pm23 an23 cd23 ct23), sl23⟩) (c23 : PySem.W.codeIn K cd23 "_law_mirror" = true) (k23 : PySem.W.keepIn K (.ref f23) = true)
    {f24 : Addr} {od24 an24 : Option Addr} {sl24 : Array (Option Value)} {oc24 kV24 dc24 pm24 cd24 ct24 : Value} (a24 : PySem.W.nsIn K mainGlobals "_law_loop" = some (some (.ref f24))) (l24 : K.lookup f24 = some ⟨oc24, od24, .func (PySem.W.fnOf "_law_loop" "_law_loop" (defArgs s__law_loop) (defBody s__law_loop) (defScope s__law_loop) .none kV24 dc24 pm24 an24 cd24 ct24), sl24⟩) (c24 : PySem.W.codeIn K cd24 "_law_loop" = true) (k24 : PySem.W.keepIn K (.ref f24) = true)
    {f25 : Addr} {od25 an25 : Option Addr} {sl25 : Array (Option Value)} {oc25 kV25 dc25 pm25 cd25 ct25 : Value} (a25 : PySem.W.nsIn K mainGlobals "_law_ends_of" = some (some (.ref f25))) (l25 : K.lookup f25 = some ⟨oc25, od25, .func (PySem.W.fnOf "_law_ends_of" "_law_ends_of" (defArgs s__law_ends_of) (defBody s__law_ends_of) (defScope s__law_ends_of) .none kV25 dc25 pm25 an25 cd25 ct25), sl25⟩) (c25 : PySem.W.codeIn K cd25 "_law_ends_of" = true) (k25 : PySem.W.keepIn K (.ref f25) = true)
    {f26 : Addr} {od26 an26 : Option Addr} {sl26 : Array (Option Value)} {oc26 kV26 dc26 pm26 cd26 ct26 : Value} (a26 : PySem.W.nsIn K mainGlobals "_law_all_ends" = some (some (.ref f26))) (l26 : K.lookup f26 = some ⟨oc26, od26, .func (PySem.W.fnOf "_law_all_ends" "_law_all_ends" (defArgs s__law_all_ends) (defBody s__law_all_ends) (defScope s__law_all_ends) .none kV26 dc26 pm26 an26 cd26 ct26), sl26⟩) (c26 : PySem.W.codeIn K cd26 "_law_all_ends" = true) (k26 : PySem.W.keepIn K (.ref f26) = true)
    {f27 : Addr} {od27 an27 : Option Addr} {sl27 : Array (Option Value)} {oc27 kV27 dc27 pm27 cd27 ct27 : Value} (a27 : PySem.W.nsIn K mainGlobals "_law_is_free" = some (some (.ref f27))) (l27 : K.lookup f27 = some ⟨oc27, od27, .func (PySem.W.fnOf "_law_is_free" "_law_is_free" (defArgs s__law_is_free) (defBody s__law_is_free) (defScope s__law_is_free) .none kV27 dc27 pm27 an27 cd27 ct27), sl27⟩) (c27 : PySem.W.codeIn K cd27 "_law_is_free" = true) (k27 : PySem.W.keepIn K (.ref f27) = true)
    {f28 : Addr} {od28 an28 : Option Addr} {sl28 : Array (Option Value)} {oc28 kV28 dc28 pm28 cd28 ct28 : Value} (a28 : PySem.W.nsIn K mainGlobals "_law_placed" = some (some (.ref f28))) (l28 : K.lookup f28 = some ⟨oc28, od28, .func (PySem.W.fnOf "_law_placed" "_law_placed" (defArgs s__law_placed) (defBody s__law_placed) (defScope s__law_placed) .none kV28 dc28 pm28 an28 cd28 ct28), sl28⟩) (c28 : PySem.W.codeIn K cd28 "_law_placed" = true) (k28 : PySem.W.keepIn K (.ref f28) = true)
    {f29 : Addr} {od29 an29 : Option Addr} {sl29 : Array (Option Value)} {oc29 kV29 dc29 pm29 cd29 ct29 : Value} (a29 : PySem.W.nsIn K mainGlobals "_law_shapes" = some (some (.ref f29))) (l29 : K.lookup f29 = some ⟨oc29, od29, .func (PySem.W.fnOf "_law_shapes" "_law_shapes" (defArgs s__law_shapes) (defBody s__law_shapes) (defScope s__law_shapes) .none kV29 dc29 pm29 an29 cd29 ct29), sl29⟩) (c29 : PySem.W.codeIn K cd29 "_law_shapes" = true) (k29 : PySem.W.keepIn K (.ref f29) = true)
    {f30 : Addr} {od30 an30 : Option Addr} {sl30 : Array (Option Value)} {oc30 kV30 dc30 pm30 cd30 ct30 : Value} (a30 : PySem.W.nsIn K mainGlobals "_law_between" = some (some (.ref f30))) (l30 : K.lookup f30 = some ⟨oc30, od30, .func (PySem.W.fnOf "_law_between" "_law_between" (defArgs s__law_between) (defBody s__law_between) (defScope s__law_between) .none kV30 dc30 pm30 an30 cd30 ct30), sl30⟩) (c30 : PySem.W.codeIn K cd30 "_law_between" = true) (k30 : PySem.W.keepIn K (.ref f30) = true)
    {f31 : Addr} {od31 an31 : Option Addr} {sl31 : Array (Option Value)} {oc31 kV31 dc31 pm31 cd31 ct31 : Value} (a31 : PySem.W.nsIn K mainGlobals "_law_motions" = some (some (.ref f31))) (l31 : K.lookup f31 = some ⟨oc31, od31, .func (PySem.W.fnOf "_law_motions" "_law_motions" (defArgs s__law_motions) (defBody s__law_motions) (defScope s__law_motions) .none kV31 dc31 pm31 an31 cd31 ct31), sl31⟩) (c31 : PySem.W.codeIn K cd31 "_law_motions" = true) (k31 : PySem.W.keepIn K (.ref f31) = true)
    {f32 : Addr} {od32 an32 : Option Addr} {sl32 : Array (Option Value)} {oc32 kV32 dc32 pm32 cd32 ct32 : Value} (a32 : PySem.W.nsIn K mainGlobals "_law_layout" = some (some (.ref f32))) (l32 : K.lookup f32 = some ⟨oc32, od32, .func (PySem.W.fnOf "_law_layout" "_law_layout" (defArgs s__law_layout) (defBody s__law_layout) (defScope s__law_layout) .none kV32 dc32 pm32 an32 cd32 ct32), sl32⟩) (c32 : PySem.W.codeIn K cd32 "_law_layout" = true) (k32 : PySem.W.keepIn K (.ref f32) = true)
    {f33 : Addr} {od33 an33 : Option Addr} {sl33 : Array (Option Value)} {oc33 kV33 dc33 pm33 cd33 ct33 : Value} (a33 : PySem.W.nsIn K mainGlobals "law" = some (some (.ref f33))) (l33 : K.lookup f33 = some ⟨oc33, od33, .func (PySem.W.fnOf "law" "law" (defArgs s_law) (defBody s_law) (defScope s_law) .none kV33 dc33 pm33 an33 cd33 ct33), sl33⟩) (c33 : PySem.W.codeIn K cd33 "law" = true) (k33 : PySem.W.keepIn K (.ref f33) = true)
    (z0 : PySem.W.nsIn K mainGlobals "len" = some none)
    (z1 : PySem.W.nsIn K mainGlobals "range" = some none)
    (z2 : PySem.W.nsIn K mainGlobals "zip" = some none)
    (z3 : PySem.W.nsIn K mainGlobals "enumerate" = some none)
    (z4 : PySem.W.nsIn K mainGlobals "tuple" = some none)
    (z5 : PySem.W.nsIn K mainGlobals "list" = some none)
    (z6 : PySem.W.nsIn K mainGlobals "int" = some none)
    (z7 : PySem.W.nsIn K mainGlobals "sorted" = some none)
    (z8 : PySem.W.nsIn K mainGlobals "repr" = some none)
    {u8 u4 : Tok} (g8 : PySem.W.nsIn K mainGlobals "EIGHTHS" = some (some (.int 8 u8))) (g4 : PySem.W.nsIn K mainGlobals "HALF" = some (some (.int 4 u4)))
    {nw hm : Addr} (gn : PySem.W.nsIn K mainGlobals "NOWHERE" = some (some (.ref nw))) (gh : PySem.W.nsIn K mainGlobals "HOME" = some (some (.ref hm)))
    {nwt0 nwt1 nwt2 nwt3 : Tok} {ddnw : Option Addr} {nnnw : Nat} {ssnw : Array (Option Value)} (lknw : K.lookup nw = some ⟨.type "tuple", ddnw, .seq #[.int (0) nwt0, .int (0) nwt1, .int (0) nwt2, .int (0) nwt3] nnnw, ssnw⟩)
    {hmt0 hmt1 hmt2 hmt3 hmt4 : Tok} {ddhm : Option Addr} {nnhm : Nat} {sshm : Array (Option Value)} (lkhm : K.lookup hm = some ⟨.type "tuple", ddhm, .seq #[.int (0) hmt0, .int (0) hmt1, .int (0) hmt2, .int (0) hmt3, .int (0) hmt4] nnhm, sshm⟩)
    {ot : Addr} {es : Array DictEntry} {en : Nat} (go : PySem.W.nsIn K mainGlobals "OTHER_ENDS" = some (some (.ref ot))) (lo : K.lookup ot = some ⟨.type "dict", none, .dict es en, #[]⟩) (ko : PySem.W.KeysLit w.params es.toList)
    {xS xS0 : Addr} (oS : PySem.W.nsIn K ot "S" = some (some (.ref xS)))
    {ddxS : Option Addr} {nnxS : Nat} {ssxS : Array (Option Value)} (lkxS : K.lookup xS = some ⟨.type "tuple", ddxS, .seq #[.ref xS0] nnxS, ssxS⟩)
    {xS0t0 xS0t1 xS0t2 xS0t3 xS0t4 : Tok} {ddxS0 : Option Addr} {nnxS0 : Nat} {ssxS0 : Array (Option Value)} (lkxS0 : K.lookup xS0 = some ⟨.type "tuple", ddxS0, .seq #[.int (2) xS0t0, .int (0) xS0t1, .int (0) xS0t2, .int (0) xS0t3, .int (0) xS0t4] nnxS0, ssxS0⟩)
    {xH xH0 : Addr} (oH : PySem.W.nsIn K ot "H" = some (some (.ref xH)))
    {ddxH : Option Addr} {nnxH : Nat} {ssxH : Array (Option Value)} (lkxH : K.lookup xH = some ⟨.type "tuple", ddxH, .seq #[.ref xH0] nnxH, ssxH⟩)
    {xH0t0 xH0t1 xH0t2 xH0t3 xH0t4 : Tok} {ddxH0 : Option Addr} {nnxH0 : Nat} {ssxH0 : Array (Option Value)} (lkxH0 : K.lookup xH0 = some ⟨.type "tuple", ddxH0, .seq #[.int (1) xH0t0, .int (0) xH0t1, .int (0) xH0t2, .int (0) xH0t3, .int (0) xH0t4] nnxH0, ssxH0⟩)
    {xC xC0 : Addr} (oC : PySem.W.nsIn K ot "C" = some (some (.ref xC)))
    {ddxC : Option Addr} {nnxC : Nat} {ssxC : Array (Option Value)} (lkxC : K.lookup xC = some ⟨.type "tuple", ddxC, .seq #[.ref xC0] nnxC, ssxC⟩)
    {xC0t0 xC0t1 xC0t2 xC0t3 xC0t4 : Tok} {ddxC0 : Option Addr} {nnxC0 : Nat} {ssxC0 : Array (Option Value)} (lkxC0 : K.lookup xC0 = some ⟨.type "tuple", ddxC0, .seq #[.int (0) xC0t0, .int (0) xC0t1, .int (2) xC0t2, .int (-2) xC0t3, .int (1) xC0t4] nnxC0, ssxC0⟩)
    {xP xP0 xP1 : Addr} (oP : PySem.W.nsIn K ot "P" = some (some (.ref xP)))
    {ddxP : Option Addr} {nnxP : Nat} {ssxP : Array (Option Value)} (lkxP : K.lookup xP = some ⟨.type "tuple", ddxP, .seq #[.ref xP0, .ref xP1] nnxP, ssxP⟩)
    {xP0t0 xP0t1 xP0t2 xP0t3 xP0t4 : Tok} {ddxP0 : Option Addr} {nnxP0 : Nat} {ssxP0 : Array (Option Value)} (lkxP0 : K.lookup xP0 = some ⟨.type "tuple", ddxP0, .seq #[.int (2) xP0t0, .int (0) xP0t1, .int (0) xP0t2, .int (0) xP0t3, .int (0) xP0t4] nnxP0, ssxP0⟩)
    {xP1t0 xP1t1 xP1t2 xP1t3 xP1t4 : Tok} {ddxP1 : Option Addr} {nnxP1 : Nat} {ssxP1 : Array (Option Value)} (lkxP1 : K.lookup xP1 = some ⟨.type "tuple", ddxP1, .seq #[.int (0) xP1t0, .int (0) xP1t1, .int (2) xP1t2, .int (-2) xP1t3, .int (1) xP1t4] nnxP1, ssxP1⟩)
    {xQ xQ0 xQ1 : Addr} (oQ : PySem.W.nsIn K ot "Q" = some (some (.ref xQ)))
    {ddxQ : Option Addr} {nnxQ : Nat} {ssxQ : Array (Option Value)} (lkxQ : K.lookup xQ = some ⟨.type "tuple", ddxQ, .seq #[.ref xQ0, .ref xQ1] nnxQ, ssxQ⟩)
    {xQ0t0 xQ0t1 xQ0t2 xQ0t3 xQ0t4 : Tok} {ddxQ0 : Option Addr} {nnxQ0 : Nat} {ssxQ0 : Array (Option Value)} (lkxQ0 : K.lookup xQ0 = some ⟨.type "tuple", ddxQ0, .seq #[.int (2) xQ0t0, .int (0) xQ0t1, .int (0) xQ0t2, .int (0) xQ0t3, .int (0) xQ0t4] nnxQ0, ssxQ0⟩)
    {xQ1t0 xQ1t1 xQ1t2 xQ1t3 xQ1t4 : Tok} {ddxQ1 : Option Addr} {nnxQ1 : Nat} {ssxQ1 : Array (Option Value)} (lkxQ1 : K.lookup xQ1 = some ⟨.type "tuple", ddxQ1, .seq #[.int (0) xQ1t0, .int (2) xQ1t1, .int (-2) xQ1t2, .int (0) xQ1t3, .int (7) xQ1t4] nnxQ1, ssxQ1⟩)
    {xX xX0 xX1 xX2 : Addr} (oX : PySem.W.nsIn K ot "X" = some (some (.ref xX)))
    {ddxX : Option Addr} {nnxX : Nat} {ssxX : Array (Option Value)} (lkxX : K.lookup xX = some ⟨.type "tuple", ddxX, .seq #[.ref xX0, .ref xX1, .ref xX2] nnxX, ssxX⟩)
    {xX0t0 xX0t1 xX0t2 xX0t3 xX0t4 : Tok} {ddxX0 : Option Addr} {nnxX0 : Nat} {ssxX0 : Array (Option Value)} (lkxX0 : K.lookup xX0 = some ⟨.type "tuple", ddxX0, .seq #[.int (2) xX0t0, .int (0) xX0t1, .int (0) xX0t2, .int (0) xX0t3, .int (0) xX0t4] nnxX0, ssxX0⟩)
    {xX1t0 xX1t1 xX1t2 xX1t3 xX1t4 : Tok} {ddxX1 : Option Addr} {nnxX1 : Nat} {ssxX1 : Array (Option Value)} (lkxX1 : K.lookup xX1 = some ⟨.type "tuple", ddxX1, .seq #[.int (1) xX1t0, .int (0) xX1t1, .int (1) xX1t2, .int (0) xX1t3, .int (2) xX1t4] nnxX1, ssxX1⟩)
    {xX2t0 xX2t1 xX2t2 xX2t3 xX2t4 : Tok} {ddxX2 : Option Addr} {nnxX2 : Nat} {ssxX2 : Array (Option Value)} (lkxX2 : K.lookup xX2 = some ⟨.type "tuple", ddxX2, .seq #[.int (1) xX2t0, .int (0) xX2t1, .int (-1) xX2t2, .int (0) xX2t3, .int (6) xX2t4] nnxX2, ssxX2⟩) :
    ∃ fd : FuncData, (∀ (s : Shared) (v : Value), BindsTo s fd ⟨[v], []⟩ [("_law_script", v)]) ∧ ∀ base : Heap, K.In base → base.Ns mainGlobals mg → GOk l.prog w K mg base CX0 10 fa fd ["_law_script"] (spLaw K) := by
  have e := hfa.symm.trans (PySem.W.mg_of X G a33)
  cases e
  have F0 := fun_mk (st := s_step) l0 c0 k0
  have b0 := F0.binds (ps := ["direction", "many"]) fun _ _ _ _ _ _ us hl => match us, hl with | [_, _], _ => rfl
  have F1 := fun_mk (st := s_moved) l1 c1 k1
  have b1 := F1.binds (ps := ["position", "other"]) fun _ _ _ _ _ _ us hl => match us, hl with | [_, _], _ => rfl
  have F2 := fun_mk (st := s_turned) l2 c2 k2
  have b2 := F2.binds (ps := ["position", "eighths"]) fun _ _ _ _ _ _ us hl => match us, hl with | [_, _], _ => rfl
  have F3 := fun_mk (st := s_laid) l3 c3 k3
  have b3 := F3.binds (ps := ["pose", "other"]) fun _ _ _ _ _ _ us hl => match us, hl with | [_, _], _ => rfl
  have F4 := fun_mk (st := s_back) l4 c4 k4
  have b4 := F4.binds (ps := ["pose"]) fun _ _ _ _ _ _ us hl => match us, hl with | [_], _ => rfl
  have F5 := fun_mk (st := s_ends_of) l5 c5 k5
  have b5 := F5.binds (ps := ["kind", "pose"]) fun _ _ _ _ _ _ us hl => match us, hl with | [_, _], _ => rfl
  have F6 := fun_mk (st := s_all_ends) l6 c6 k6
  have b6 := F6.binds (ps := ["layout"]) fun _ _ _ _ _ _ us hl => match us, hl with | [_], _ => rfl
  have F7 := fun_mk (st := s_shape) l7 c7 k7
  have b7 := F7.binds (ps := ["piece", "motion"]) fun _ _ _ _ _ _ us hl => match us, hl with | [_, _], _ => rfl
  have F8 := fun_mk (st := s_shapes) l8 c8 k8
  have b8 := F8.binds (ps := ["layout", "motion"]) fun _ _ _ _ _ _ us hl => match us, hl with | [_, _], _ => rfl
  have F9 := fun_mk (st := s_motion_between) l9 c9 k9
  have b9 := F9.binds (ps := ["pose", "other"]) fun _ _ _ _ _ _ us hl => match us, hl with | [_, _], _ => rfl
  have F10 := fun_mk (st := s_motions) l10 c10 k10
  have b10 := F10.binds (ps := ["layout"]) fun _ _ _ _ _ _ us hl => match us, hl with | [_], _ => rfl
  have F11 := fun_mk (st := s_alike) l11 c11 k11
  have b11 := F11.binds (ps := ["layout"]) fun _ _ _ _ _ _ us hl => match us, hl with | [_], _ => rfl
  have F12 := fun_mk (st := s__law_cell) l12 c12 k12
  have b12 := F12.binds (ps := ["_law_script", "_law_k"]) fun _ _ _ _ _ _ us hl => match us, hl with | [_, _], _ => rfl
  have F13 := fun_mk (st := s__law_same) l13 c13 k13
  have b13 := F13.binds (ps := ["_law_actual", "_law_due"]) fun _ _ _ _ _ _ us hl => match us, hl with | [_, _], _ => rfl
  have F14 := fun_mk (st := s__law_digits) l14 c14 k14
  have b14 := F14.binds (ps := ["_law_script", "_law_first", "_law_last"]) fun _ _ _ _ _ _ us hl => match us, hl with | [_, _, _], _ => rfl
  have F15 := fun_mk (st := s__law_draw) l15 c15 k15
  have b15 := F15.binds (ps := ["_law_box", "_law_many"]) fun _ _ _ _ _ _ us hl => match us, hl with | [_, _], _ => rfl
  have F16 := fun_mk (st := s__law_pick) l16 c16 k16
  have b16 := F16.binds (ps := ["_law_box", "_law_rows"]) fun _ _ _ _ _ _ us hl => match us, hl with | [_, _], _ => rfl
  have F17 := fun_mk (st := s__law_move) l17 c17 k17
  have b17 := F17.binds (ps := ["_law_position", "_law_direction", "_law_many"]) fun _ _ _ _ _ _ us hl => match us, hl with | [_, _, _], _ => rfl
  have F18 := fun_mk (st := s__law_turned) l18 c18 k18
  have b18 := F18.binds (ps := ["_law_position", "_law_eighths"]) fun _ _ _ _ _ _ us hl => match us, hl with | [_, _], _ => rfl
  have F19 := fun_mk (st := s__law_laid) l19 c19 k19
  have b19 := F19.binds (ps := ["_law_pose_here", "_law_other"]) fun _ _ _ _ _ _ us hl => match us, hl with | [_, _], _ => rfl
  have F20 := fun_mk (st := s__law_back) l20 c20 k20
  have b20 := F20.binds (ps := ["_law_pose_here"]) fun _ _ _ _ _ _ us hl => match us, hl with | [_], _ => rfl
  have F21 := fun_mk (st := s__law_led) l21 c21 k21
  have b21 := F21.binds (ps := ["_law_pose_here", "_law_row"]) fun _ _ _ _ _ _ us hl => match us, hl with | [_, _], _ => rfl
  have F22 := fun_mk (st := s__law_home) l22 c22 k22
  have b22 := F22.binds (ps := []) fun _ _ _ _ _ _ us hl => match us, hl with | [], _ => rfl
  have F23 := fun_mk (st := s__law_mirror) l23 c23 k23
  have b23 := F23.binds (ps := ["_law_row"]) fun _ _ _ _ _ _ us hl => match us, hl with | [_], _ => rfl
  have F24 := fun_mk (st := s__law_loop) l24 c24 k24
  have b24 := F24.binds (ps := ["_law_box"]) fun _ _ _ _ _ _ us hl => match us, hl with | [_], _ => rfl
  have F25 := fun_mk (st := s__law_ends_of) l25 c25 k25
  have b25 := F25.binds (ps := ["_law_kind", "_law_pose_here"]) fun _ _ _ _ _ _ us hl => match us, hl with | [_, _], _ => rfl
  have F26 := fun_mk (st := s__law_all_ends) l26 c26 k26
  have b26 := F26.binds (ps := ["_law_layout_here"]) fun _ _ _ _ _ _ us hl => match us, hl with | [_], _ => rfl
  have F27 := fun_mk (st := s__law_is_free) l27 c27 k27
  have b27 := F27.binds (ps := ["_law_layout_here", "_law_pieces"]) fun _ _ _ _ _ _ us hl => match us, hl with | [_, _], _ => rfl
  have F28 := fun_mk (st := s__law_placed) l28 c28 k28
  have b28 := F28.binds (ps := ["_law_pose_here", "_law_row"]) fun _ _ _ _ _ _ us hl => match us, hl with | [_, _], _ => rfl
  have F29 := fun_mk (st := s__law_shapes) l29 c29 k29
  have b29 := F29.binds (ps := ["_law_layout_here", "_law_motion"]) fun _ _ _ _ _ _ us hl => match us, hl with | [_, _], _ => rfl
  have F30 := fun_mk (st := s__law_between) l30 c30 k30
  have b30 := F30.binds (ps := ["_law_pose_here", "_law_other"]) fun _ _ _ _ _ _ us hl => match us, hl with | [_, _], _ => rfl
  have F31 := fun_mk (st := s__law_motions) l31 c31 k31
  have b31 := F31.binds (ps := ["_law_layout_here"]) fun _ _ _ _ _ _ us hl => match us, hl with | [_], _ => rfl
  have F32 := fun_mk (st := s__law_layout) l32 c32 k32
  have b32 := F32.binds (ps := ["_law_box"]) fun _ _ _ _ _ _ us hl => match us, hl with | [_], _ => rfl
  have F33 := fun_mk (st := s_law) l33 c33 k33
  have b33 := F33.binds (ps := ["_law_script"]) fun _ _ _ _ _ _ us hl => match us, hl with | [_], _ => rfl

  have kO : ∀ c : Kd, ∃ v, KDct K w ot c.str v ∧ ∀ H, Tk K H (.tup ((others c).map poseK)) v := by
    intro c
    cases c with
    | S => exact ⟨.ref xS, ⟨es, en, _, lo, ko, oS, rfl⟩, fun H => kWT lkxS (by show 1 ≤ 100000; decide) (xs := [.ref xS0]) (.cons rfl .nil) (ks := (others .S).map poseK) (tks_cons.mpr ⟨_, _, rfl, kWT lkxS0 (by show 5 ≤ 100000; decide) (xs := [.int (2), .int (0), .int (0), .int (0), .int (0)]) (.cons ⟨_, rfl⟩ (.cons ⟨_, rfl⟩ (.cons ⟨_, rfl⟩ (.cons ⟨_, rfl⟩ (.cons ⟨_, rfl⟩ .nil))))) (ks := [.num (2), .num (0), .num (0), .num (0), .num (0)]) (tks_i [2, 0, 0, 0, 0]) H, tks_nil.mpr rfl⟩) H⟩
    | H => exact ⟨.ref xH, ⟨es, en, _, lo, ko, oH, rfl⟩, fun H => kWT lkxH (by show 1 ≤ 100000; decide) (xs := [.ref xH0]) (.cons rfl .nil) (ks := (others .H).map poseK) (tks_cons.mpr ⟨_, _, rfl, kWT lkxH0 (by show 5 ≤ 100000; decide) (xs := [.int (1), .int (0), .int (0), .int (0), .int (0)]) (.cons ⟨_, rfl⟩ (.cons ⟨_, rfl⟩ (.cons ⟨_, rfl⟩ (.cons ⟨_, rfl⟩ (.cons ⟨_, rfl⟩ .nil))))) (ks := [.num (1), .num (0), .num (0), .num (0), .num (0)]) (tks_i [1, 0, 0, 0, 0]) H, tks_nil.mpr rfl⟩) H⟩
    | C => exact ⟨.ref xC, ⟨es, en, _, lo, ko, oC, rfl⟩, fun H => kWT lkxC (by show 1 ≤ 100000; decide) (xs := [.ref xC0]) (.cons rfl .nil) (ks := (others .C).map poseK) (tks_cons.mpr ⟨_, _, rfl, kWT lkxC0 (by show 5 ≤ 100000; decide) (xs := [.int (0), .int (0), .int (2), .int (-2), .int (1)]) (.cons ⟨_, rfl⟩ (.cons ⟨_, rfl⟩ (.cons ⟨_, rfl⟩ (.cons ⟨_, rfl⟩ (.cons ⟨_, rfl⟩ .nil))))) (ks := [.num (0), .num (0), .num (2), .num (-2), .num (1)]) (tks_i [0, 0, 2, -2, 1]) H, tks_nil.mpr rfl⟩) H⟩
    | P => exact ⟨.ref xP, ⟨es, en, _, lo, ko, oP, rfl⟩, fun H => kWT lkxP (by show 2 ≤ 100000; decide) (xs := [.ref xP0, .ref xP1]) (.cons rfl (.cons rfl .nil)) (ks := (others .P).map poseK) (tks_cons.mpr ⟨_, _, rfl, kWT lkxP0 (by show 5 ≤ 100000; decide) (xs := [.int (2), .int (0), .int (0), .int (0), .int (0)]) (.cons ⟨_, rfl⟩ (.cons ⟨_, rfl⟩ (.cons ⟨_, rfl⟩ (.cons ⟨_, rfl⟩ (.cons ⟨_, rfl⟩ .nil))))) (ks := [.num (2), .num (0), .num (0), .num (0), .num (0)]) (tks_i [2, 0, 0, 0, 0]) H, tks_cons.mpr ⟨_, _, rfl, kWT lkxP1 (by show 5 ≤ 100000; decide) (xs := [.int (0), .int (0), .int (2), .int (-2), .int (1)]) (.cons ⟨_, rfl⟩ (.cons ⟨_, rfl⟩ (.cons ⟨_, rfl⟩ (.cons ⟨_, rfl⟩ (.cons ⟨_, rfl⟩ .nil))))) (ks := [.num (0), .num (0), .num (2), .num (-2), .num (1)]) (tks_i [0, 0, 2, -2, 1]) H, tks_nil.mpr rfl⟩⟩) H⟩
    | Q => exact ⟨.ref xQ, ⟨es, en, _, lo, ko, oQ, rfl⟩, fun H => kWT lkxQ (by show 2 ≤ 100000; decide) (xs := [.ref xQ0, .ref xQ1]) (.cons rfl (.cons rfl .nil)) (ks := (others .Q).map poseK) (tks_cons.mpr ⟨_, _, rfl, kWT lkxQ0 (by show 5 ≤ 100000; decide) (xs := [.int (2), .int (0), .int (0), .int (0), .int (0)]) (.cons ⟨_, rfl⟩ (.cons ⟨_, rfl⟩ (.cons ⟨_, rfl⟩ (.cons ⟨_, rfl⟩ (.cons ⟨_, rfl⟩ .nil))))) (ks := [.num (2), .num (0), .num (0), .num (0), .num (0)]) (tks_i [2, 0, 0, 0, 0]) H, tks_cons.mpr ⟨_, _, rfl, kWT lkxQ1 (by show 5 ≤ 100000; decide) (xs := [.int (0), .int (2), .int (-2), .int (0), .int (7)]) (.cons ⟨_, rfl⟩ (.cons ⟨_, rfl⟩ (.cons ⟨_, rfl⟩ (.cons ⟨_, rfl⟩ (.cons ⟨_, rfl⟩ .nil))))) (ks := [.num (0), .num (2), .num (-2), .num (0), .num (7)]) (tks_i [0, 2, -2, 0, 7]) H, tks_nil.mpr rfl⟩⟩) H⟩
    | X => exact ⟨.ref xX, ⟨es, en, _, lo, ko, oX, rfl⟩, fun H => kWT lkxX (by show 3 ≤ 100000; decide) (xs := [.ref xX0, .ref xX1, .ref xX2]) (.cons rfl (.cons rfl (.cons rfl .nil))) (ks := (others .X).map poseK) (tks_cons.mpr ⟨_, _, rfl, kWT lkxX0 (by show 5 ≤ 100000; decide) (xs := [.int (2), .int (0), .int (0), .int (0), .int (0)]) (.cons ⟨_, rfl⟩ (.cons ⟨_, rfl⟩ (.cons ⟨_, rfl⟩ (.cons ⟨_, rfl⟩ (.cons ⟨_, rfl⟩ .nil))))) (ks := [.num (2), .num (0), .num (0), .num (0), .num (0)]) (tks_i [2, 0, 0, 0, 0]) H, tks_cons.mpr ⟨_, _, rfl, kWT lkxX1 (by show 5 ≤ 100000; decide) (xs := [.int (1), .int (0), .int (1), .int (0), .int (2)]) (.cons ⟨_, rfl⟩ (.cons ⟨_, rfl⟩ (.cons ⟨_, rfl⟩ (.cons ⟨_, rfl⟩ (.cons ⟨_, rfl⟩ .nil))))) (ks := [.num (1), .num (0), .num (1), .num (0), .num (2)]) (tks_i [1, 0, 1, 0, 2]) H, tks_cons.mpr ⟨_, _, rfl, kWT lkxX2 (by show 5 ≤ 100000; decide) (xs := [.int (1), .int (0), .int (-1), .int (0), .int (6)]) (.cons ⟨_, rfl⟩ (.cons ⟨_, rfl⟩ (.cons ⟨_, rfl⟩ (.cons ⟨_, rfl⟩ (.cons ⟨_, rfl⟩ .nil))))) (ks := [.num (1), .num (0), .num (-1), .num (0), .num (6)]) (tks_i [1, 0, -1, 0, 6]) H, tks_nil.mpr rfl⟩⟩⟩) H⟩
  have T : Tx w K mg ⟨fun i => [f0, f1, f2, f3, f4, f5, f6, f7, f8, f9, f10, f11, f12, f13, f14, f15, f16, f17, f18, f19, f20, f21, f22, f23, f24, f25, f26, f27, f28, f29, f30, f31, f32, fa].getD i 0, fun i => [PySem.W.fnOf "step" "step" (defArgs s_step) (defBody s_step) (defScope s_step) .none kV0 dc0 pm0 an0 cd0 ct0, PySem.W.fnOf "moved" "moved" (defArgs s_moved) (defBody s_moved) (defScope s_moved) .none kV1 dc1 pm1 an1 cd1 ct1, PySem.W.fnOf "turned" "turned" (defArgs s_turned) (defBody s_turned) (defScope s_turned) .none kV2 dc2 pm2 an2 cd2 ct2, PySem.W.fnOf "laid" "laid" (defArgs s_laid) (defBody s_laid) (defScope s_laid) .none kV3 dc3 pm3 an3 cd3 ct3, PySem.W.fnOf "back" "back" (defArgs s_back) (defBody s_back) (defScope s_back) .none kV4 dc4 pm4 an4 cd4 ct4, PySem.W.fnOf "ends_of" "ends_of" (defArgs s_ends_of) (defBody s_ends_of) (defScope s_ends_of) .none kV5 dc5 pm5 an5 cd5 ct5, PySem.W.fnOf "all_ends" "all_ends" (defArgs s_all_ends) (defBody s_all_ends) (defScope s_all_ends) .none kV6 dc6 pm6 an6 cd6 ct6, PySem.W.fnOf "shape" "shape" (defArgs s_shape) (defBody s_shape) (defScope s_shape) .none kV7 dc7 pm7 an7 cd7 ct7, PySem.W.fnOf "shapes" "shapes" (defArgs s_shapes) (defBody s_shapes) (defScope s_shapes) .none kV8 dc8 pm8 an8 cd8 ct8, PySem.W.fnOf "motion_between" "motion_between" (defArgs s_motion_between) (defBody s_motion_between) (defScope s_motion_between) .none kV9 dc9 pm9 an9 cd9 ct9, PySem.W.fnOf "motions" "motions" (defArgs s_motions) (defBody s_motions) (defScope s_motions) .none kV10 dc10 pm10 an10 cd10 ct10, PySem.W.fnOf "alike" "alike" (defArgs s_alike) (defBody s_alike) (defScope s_alike) .none kV11 dc11 pm11 an11 cd11 ct11, PySem.W.fnOf "_law_cell" "_law_cell" (defArgs s__law_cell) (defBody s__law_cell) (defScope s__law_cell) .none kV12 dc12 pm12 an12 cd12 ct12, PySem.W.fnOf "_law_same" "_law_same" (defArgs s__law_same) (defBody s__law_same) (defScope s__law_same) .none kV13 dc13 pm13 an13 cd13 ct13, PySem.W.fnOf "_law_digits" "_law_digits" (defArgs s__law_digits) (defBody s__law_digits) (defScope s__law_digits) .none kV14 dc14 pm14 an14 cd14 ct14, PySem.W.fnOf "_law_draw" "_law_draw" (defArgs s__law_draw) (defBody s__law_draw) (defScope s__law_draw) .none kV15 dc15 pm15 an15 cd15 ct15, PySem.W.fnOf "_law_pick" "_law_pick" (defArgs s__law_pick) (defBody s__law_pick) (defScope s__law_pick) .none kV16 dc16 pm16 an16 cd16 ct16, PySem.W.fnOf "_law_move" "_law_move" (defArgs s__law_move) (defBody s__law_move) (defScope s__law_move) .none kV17 dc17 pm17 an17 cd17 ct17, PySem.W.fnOf "_law_turned" "_law_turned" (defArgs s__law_turned) (defBody s__law_turned) (defScope s__law_turned) .none kV18 dc18 pm18 an18 cd18 ct18, PySem.W.fnOf "_law_laid" "_law_laid" (defArgs s__law_laid) (defBody s__law_laid) (defScope s__law_laid) .none kV19 dc19 pm19 an19 cd19 ct19, PySem.W.fnOf "_law_back" "_law_back" (defArgs s__law_back) (defBody s__law_back) (defScope s__law_back) .none kV20 dc20 pm20 an20 cd20 ct20, PySem.W.fnOf "_law_led" "_law_led" (defArgs s__law_led) (defBody s__law_led) (defScope s__law_led) .none kV21 dc21 pm21 an21 cd21 ct21, PySem.W.fnOf "_law_home" "_law_home" (defArgs s__law_home) (defBody s__law_home) (defScope s__law_home) .none kV22 dc22 pm22 an22 cd22 ct22, PySem.W.fnOf "_law_mirror" "_law_mirror" (defArgs s__law_mirror) (defBody s__law_mirror) (defScope s__law_mirror) .none kV23 dc23 pm23 an23 cd23 ct23, PySem.W.fnOf "_law_loop" "_law_loop" (defArgs s__law_loop) (defBody s__law_loop) (defScope s__law_loop) .none kV24 dc24 pm24 an24 cd24 ct24, PySem.W.fnOf "_law_ends_of" "_law_ends_of" (defArgs s__law_ends_of) (defBody s__law_ends_of) (defScope s__law_ends_of) .none kV25 dc25 pm25 an25 cd25 ct25, PySem.W.fnOf "_law_all_ends" "_law_all_ends" (defArgs s__law_all_ends) (defBody s__law_all_ends) (defScope s__law_all_ends) .none kV26 dc26 pm26 an26 cd26 ct26, PySem.W.fnOf "_law_is_free" "_law_is_free" (defArgs s__law_is_free) (defBody s__law_is_free) (defScope s__law_is_free) .none kV27 dc27 pm27 an27 cd27 ct27, PySem.W.fnOf "_law_placed" "_law_placed" (defArgs s__law_placed) (defBody s__law_placed) (defScope s__law_placed) .none kV28 dc28 pm28 an28 cd28 ct28, PySem.W.fnOf "_law_shapes" "_law_shapes" (defArgs s__law_shapes) (defBody s__law_shapes) (defScope s__law_shapes) .none kV29 dc29 pm29 an29 cd29 ct29, PySem.W.fnOf "_law_between" "_law_between" (defArgs s__law_between) (defBody s__law_between) (defScope s__law_between) .none kV30 dc30 pm30 an30 cd30 ct30, PySem.W.fnOf "_law_motions" "_law_motions" (defArgs s__law_motions) (defBody s__law_motions) (defScope s__law_motions) .none kV31 dc31 pm31 an31 cd31 ct31, PySem.W.fnOf "_law_layout" "_law_layout" (defArgs s__law_layout) (defBody s__law_layout) (defScope s__law_layout) .none kV32 dc32 pm32 an32 cd32 ct32, PySem.W.fnOf "law" "law" (defArgs s_law) (defBody s_law) (defScope s_law) .none kV33 dc33 pm33 an33 cd33 ct33].getD i (PySem.W.fnOf "law" "law" (defArgs s_law) (defBody s_law) (defScope s_law) .none kV33 dc33 pm33 an33 cd33 ct33), u8, u4, nw, hm, ot⟩ := ⟨
      ⟨F0, b0, PySem.W.mg_of X G a0⟩,
      ⟨F1, b1, PySem.W.mg_of X G a1⟩,
      ⟨F2, b2, PySem.W.mg_of X G a2⟩,
      ⟨F3, b3, PySem.W.mg_of X G a3⟩,
      ⟨F4, b4, PySem.W.mg_of X G a4⟩,
      ⟨F5, b5, PySem.W.mg_of X G a5⟩,
      ⟨F6, b6, PySem.W.mg_of X G a6⟩,
      ⟨F7, b7, PySem.W.mg_of X G a7⟩,
      ⟨F8, b8, PySem.W.mg_of X G a8⟩,
      ⟨F9, b9, PySem.W.mg_of X G a9⟩,
      ⟨F10, b10, PySem.W.mg_of X G a10⟩,
      ⟨F11, b11, PySem.W.mg_of X G a11⟩,
      ⟨F12, b12, PySem.W.mg_of X G a12⟩,
      ⟨F13, b13, PySem.W.mg_of X G a13⟩,
      ⟨F14, b14, PySem.W.mg_of X G a14⟩,
      ⟨F15, b15, PySem.W.mg_of X G a15⟩,
      ⟨F16, b16, PySem.W.mg_of X G a16⟩,
      ⟨F17, b17, PySem.W.mg_of X G a17⟩,
      ⟨F18, b18, PySem.W.mg_of X G a18⟩,
      ⟨F19, b19, PySem.W.mg_of X G a19⟩,
      ⟨F20, b20, PySem.W.mg_of X G a20⟩,
      ⟨F21, b21, PySem.W.mg_of X G a21⟩,
      ⟨F22, b22, PySem.W.mg_of X G a22⟩,
      ⟨F23, b23, PySem.W.mg_of X G a23⟩,
      ⟨F24, b24, PySem.W.mg_of X G a24⟩,
      ⟨F25, b25, PySem.W.mg_of X G a25⟩,
      ⟨F26, b26, PySem.W.mg_of X G a26⟩,
      ⟨F27, b27, PySem.W.mg_of X G a27⟩,
      ⟨F28, b28, PySem.W.mg_of X G a28⟩,
      ⟨F29, b29, PySem.W.mg_of X G a29⟩,
      ⟨F30, b30, PySem.W.mg_of X G a30⟩,
      ⟨F31, b31, PySem.W.mg_of X G a31⟩,
      ⟨F32, b32, PySem.W.mg_of X G a32⟩,
      ⟨F33, b33, PySem.W.mg_of X G a33⟩,
      PySem.W.mg_none_of X G z0, PySem.W.mg_none_of X G z1, PySem.W.mg_none_of X G z2, PySem.W.mg_none_of X G z3, PySem.W.mg_none_of X G z4, PySem.W.mg_none_of X G z5, PySem.W.mg_none_of X G z6, PySem.W.mg_none_of X G z7, PySem.W.mg_none_of X G z8,
      PySem.W.mg_of X G g8, PySem.W.mg_of X G g4, PySem.W.mg_of X G gn, fun H => kWT lknw (by show 4 ≤ 100000; decide) (xs := [.int 0, .int 0, .int 0, .int 0]) (.cons ⟨_, rfl⟩ (.cons ⟨_, rfl⟩ (.cons ⟨_, rfl⟩ (.cons ⟨_, rfl⟩ .nil)))) (ks := posL P4.nul) (tks_i [0, 0, 0, 0]) H, PySem.W.mg_of X G gh,
      fun H => kWT lkhm (by show 5 ≤ 100000; decide) (xs := [.int 0, .int 0, .int 0, .int 0, .int 0]) (.cons ⟨_, rfl⟩ (.cons ⟨_, rfl⟩ (.cons ⟨_, rfl⟩ (.cons ⟨_, rfl⟩ (.cons ⟨_, rfl⟩ .nil))))) (ks := pL home) (tks_i [0, 0, 0, 0, 0]) H, PySem.W.mg_of X G go, kO⟩
  exact ⟨PySem.W.fnOf "law" "law" (defArgs s_law) (defBody s_law) (defScope s_law) .none kV33 dc33 pm33 an33 cd33 ct33, fun s v => .of_eq rfl, fun base _ _ => ok_law T⟩
theorem walk {l : PySem.W.OpenLaw} {q : Program} {loose : List Str} {XP : (Str → Option Value) → Heap → Prop} {YP : World → Heap → Prop} {d : DefRec} {K : Params → PySem.W.Frag} (hn : l.most = some 63) (hdf : d.params.defaults = [])
    (hY : ∀ (w : World) (h : Heap), YP w h → (K w.params).In h)
    (F : ∀ (w : World) (mg : Str → Option Value) (fa : Addr) (h : Heap), (K w.params).In h → h.Ns mainGlobals mg → mg d.name = some (.ref fa) →
      ∃ fd : FuncData, (∀ (s : Shared) (u : Value), BindsTo s fd ⟨[u], []⟩ [("_law_script", u)]) ∧ ∀ base : Heap, (K w.params).In base → base.Ns mainGlobals mg → GOk l.prog w (K w.params) mg base CX0 10 fa fd ["_law_script"] (spLaw (K w.params))) :
    PySem.W.WalkO q loose XP YP l.row.toRowW d [] (fun f vs => PySem.call f vs) :=
  walk_G (top := 63) (n := 10) (x := "_law_script") (says := fun w => spLaw (K w.params)) hn (by decide) hdf ⟨rfl, by decide, by decide⟩ hY F (fun _ H a ns hl hS => ⟨a, ns, rfl, hS, hl, fun _ => rfl⟩)
end Mk
open PySem PySem.W PyProof.Rows
set_option maxRecDepth 100000 in
set_option maxHeartbeats 0 in
theorem PySem.Challenge.cw_railshut_k17_motions_exact_holds : PySem.Challenge.rw_railshut_k17_motions_exact.Holds := by
  w_on; o_law; k_head; (case hw => w_witness2)
  k_fill
  refine Mk.walk (l := PySem.Challenge.rw_railshut_k17_motions_exact) rfl rfl (fun w h Y => PySem.W.kIn_of Y) ?F
  case F =>
    intro w mg fa h KX G hmg
    refine' Mk.all_mk KX G hmg ?a0 ?l0 ?c0 ?k0 ?a1 ?l1 ?c1 ?k1 ?a2 ?l2 ?c2 ?k2 ?a3 ?l3 ?c3 ?k3 ?a4 ?l4 ?c4 ?k4 ?a5 ?l5 ?c5 ?k5 ?a6 ?l6 ?c6 ?k6 ?a7 ?l7 ?c7 ?k7 ?a8 ?l8 ?c8 ?k8 ?a9 ?l9 ?c9 ?k9 ?a10 ?l10 ?c10 ?k10 ?a11 ?l11 ?c11 ?k11 ?a12 ?l12 ?c12 ?k12 ?a13 ?l13 ?c13 ?k13 ?a14 ?l14 ?c14 ?k14 ?a15 ?l15 ?c15 ?k15 ?a16 ?l16 ?c16 ?k16 ?a17 ?l17 ?c17 ?k17 ?a18 ?l18 ?c18 ?k18 ?a19 ?l19 ?c19 ?k19 ?a20 ?l20 ?c20 ?k20 ?a21 ?l21 ?c21 ?k21 ?a22 ?l22 ?c22 ?k22 ?a23 ?l23 ?c23 ?k23 ?a24 ?l24 ?c24 ?k24 ?a25 ?l25 ?c25 ?k25 ?a26 ?l26 ?c26 ?k26 ?a27 ?l27 ?c27 ?k27 ?a28 ?l28 ?c28 ?k28 ?a29 ?l29 ?c29 ?k29 ?a30 ?l30 ?c30 ?k30 ?a31 ?l31 ?c31 ?k31 ?a32 ?l32 ?c32 ?k32 ?a33 ?l33 ?c33 ?k33 ?z0 ?z1 ?z2 ?z3 ?z4 ?z5 ?z6 ?z7 ?z8 ?g8 ?g4 ?gn ?gh ?lknw ?lkhm ?go ?lo ?ko ?oS ?lkxS ?lkxS0 ?oH ?lkxH ?lkxH0 ?oC ?lkxC ?lkxC0 ?oP ?lkxP ?lkxP0 ?lkxP1 ?oQ ?lkxQ ?lkxQ0 ?lkxQ1 ?oX ?lkxX ?lkxX0 ?lkxX1 ?lkxX2
    (case a0 => k_is)
    (case l0 => k_is)
    (case c0 => k_is)
    (case k0 => k_is)
    (case a1 => k_is)
    (case l1 => k_is)
    (case c1 => k_is)
    (case k1 => k_is)
    (case a2 => k_is)
    (case l2 => k_is)
    (case c2 => k_is)
    (case k2 => k_is)
    (case a3 => k_is)
    (case l3 => k_is)
    (case c3 => k_is)
    (case k3 => k_is)
    (case a4 => k_is)
    (case l4 => k_is)
    (case c4 => k_is)
    (case k4 => k_is)
    (case a5 => k_is)
    (case l5 => k_is)
    (case c5 => k_is)
    (case k5 => k_is)
    (case a6 => k_is)
    (case l6 => k_is)
    (case c6 => k_is)
    (case k6 => k_is)
    (case a7 => k_is)
    (case l7 => k_is)
    (case c7 => k_is)
    (case k7 => k_is)
    (case a8 => k_is)
    (case l8 => k_is)
    (case c8 => k_is)
    (case k8 => k_is)
    (case a9 => k_is)
    (case l9 => k_is)
    (case c9 => k_is)
    (case k9 => k_is)
    (case a10 => k_is)
    (case l10 => k_is)
    (case c10 => k_is)
    (case k10 => k_is)
    (case a11 => k_is)
    (case l11 => k_is)
    (case c11 => k_is)
    (case k11 => k_is)
    (case a12 => k_is)
    (case l12 => k_is)
    (case c12 => k_is)
    (case k12 => k_is)
    (case a13 => k_is)
    (case l13 => k_is)
    (case c13 => k_is)
    (case k13 => k_is)
    (case a14 => k_is)
    (case l14 => k_is)
    (case c14 => k_is)
    (case k14 => k_is)
    (case a15 => k_is)
    (case l15 => k_is)
    (case c15 => k_is)
    (case k15 => k_is)
    (case a16 => k_is)
    (case l16 => k_is)
    (case c16 => k_is)
    (case k16 => k_is)
    (case a17 => k_is)
    (case l17 => k_is)
    (case c17 => k_is)
    (case k17 => k_is)
    (case a18 => k_is)
    (case l18 => k_is)
    (case c18 => k_is)
    (case k18 => k_is)
    (case a19 => k_is)
    (case l19 => k_is)
    (case c19 => k_is)
    (case k19 => k_is)
    (case a20 => k_is)
    (case l20 => k_is)
    (case c20 => k_is)
    (case k20 => k_is)
    (case a21 => k_is)
    (case l21 => k_is)
    (case c21 => k_is)
    (case k21 => k_is)
    (case a22 => k_is)
    (case l22 => k_is)
    (case c22 => k_is)
    (case k22 => k_is)
    (case a23 => k_is)
    (case l23 => k_is)
    (case c23 => k_is)
    (case k23 => k_is)
    (case a24 => k_is)
    (case l24 => k_is)
    (case c24 => k_is)
    (case k24 => k_is)
    (case a25 => k_is)
    (case l25 => k_is)
    (case c25 => k_is)
    (case k25 => k_is)
    (case a26 => k_is)
    (case l26 => k_is)
    (case c26 => k_is)
    (case k26 => k_is)
    (case a27 => k_is)
    (case l27 => k_is)
    (case c27 => k_is)
    (case k27 => k_is)
    (case a28 => k_is)
    (case l28 => k_is)
    (case c28 => k_is)
    (case k28 => k_is)
    (case a29 => k_is)
    (case l29 => k_is)
    (case c29 => k_is)
    (case k29 => k_is)
    (case a30 => k_is)
    (case l30 => k_is)
    (case c30 => k_is)
    (case k30 => k_is)
    (case a31 => k_is)
    (case l31 => k_is)
    (case c31 => k_is)
    (case k31 => k_is)
    (case a32 => k_is)
    (case l32 => k_is)
    (case c32 => k_is)
    (case k32 => k_is)
    (case a33 => k_is)
    (case l33 => k_is)
    (case c33 => k_is)
    (case k33 => k_is)
    (case z0 => k_is)
    (case z1 => k_is)
    (case z2 => k_is)
    (case z3 => k_is)
    (case z4 => k_is)
    (case z5 => k_is)
    (case z6 => k_is)
    (case z7 => k_is)
    (case z8 => k_is)
    (case g8 => k_is)
    (case g4 => k_is)
    (case gn => k_is)
    (case gh => k_is)
    (case lknw => k_is)
    (case lkhm => k_is)
    (case go => k_is)
    (case lo => k_is)
    (case ko => k_keys)
    (case oS => k_is)
    (case lkxS => k_is)
    (case lkxS0 => k_is)
    (case oH => k_is)
    (case lkxH => k_is)
    (case lkxH0 => k_is)
    (case oC => k_is)
    (case lkxC => k_is)
    (case lkxC0 => k_is)
    (case oP => k_is)
    (case lkxP => k_is)
    (case lkxP0 => k_is)
    (case lkxP1 => k_is)
    (case oQ => k_is)
    (case lkxQ => k_is)
    (case lkxQ0 => k_is)
    (case lkxQ1 => k_is)
    (case oX => k_is)
    (case lkxX => k_is)
    (case lkxX0 => k_is)
    (case lkxX1 => k_is)
    (case lkxX2 => k_is)
